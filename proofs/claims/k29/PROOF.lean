import PyProof.Rows.All
import Wide.All
import OpenK.AllK
import Wide.FinOn
import PyProof.P3Statements
import KE.SortData
import PyProof.StrBlockL
import KE.IntText
import HandS.Base
import HandS.Call
import HandS.List
import HandS.Comp
import KE.KDictKeyed
import KE.KDictWalk
import KE.KDictCopyH
import HandS.Lambda
import HandS.HeadHook4
import HandS.Exc
import HandS.ExcOwn
import HandS.TryOnly
import HandS.TryMany
import PyProof.P3Eq
import PyProof.P3In
import HandS.TupAny
import HandS.TupMul
import HandS.Dict
import PyProof.NeData
import HandS.Text
import HandS.Style
import HandS.More
import KE.KDictList
import KE.KDictSum
import PyProof.SeqIndex
import HandS.Iter
import HandS.Zip
import HandS.Walk
import KE.GoesMore
import KE.GoesEnum
import HandS.IsInst
import PyProof.DictStraight
import HandS.RaiseMore
import PyProof.DictUpdate
import PyProof.Rows.TupDisplay
import HandS.Set
import HandS.SetFor
import HandS.TupSets
import KE.SortLaws
import KE.KDictPairs
import PyProof.ListRange
import HandS.Defaults
import HandS.Words
import HandS.WordsExc
import HandS.ExcInit
import HandS.ExcField
import HandS.ExcValue
import HandS.ExcIs
import KE.KExcStr
import KE.KExcIs
import KE.DataMinMax
import Wide.Once
import KE.KStateDown
import HandS.Head0
import HandS.Head1
import HandS.Head2
import HandS.HeadEnd
import HandS.HeadHook1
import HandS.HeadHook2
import HandS.HeadWalk
import PySem.Challenge.RW_cardsaid_k29_errors_and_their_classes
set_option linter.all false
set_option autoImplicit false
/-! A small pure interpreter: values, memory, IR, semantics. -/
namespace Cs
open PySem

/-! ### values -/
/-- a value of the interpreter: pure data, or a cell (a list or dict that may still change) -/
inductive W where
  | d (x : PyData)
  | c (n : Nat)

/-- an object of a class of one's own: is it an error, its class, its text (if known), its fields -/
structure ObD where
  err : Bool
  cls : Str
  txt : Option Str
  fs : List (Str × PyData)
inductive Cell where
  | lst (ws : List W)
  | dic (kvs : List (PyData × W))
  | obj (o : ObD)

abbrev Mem := List Cell
abbrev Sl := List (Option W)

/-- an exception: the name of its class, its attribute -/
structure Exc where
  cls : Str
  att : Option (Str × PyData)

inductive Res (α : Type) where
  | ok (a : α) (m : Mem)
  | exc (e : Exc) (m : Mem)
  | no

abbrev K (α : Type) := Mem → Res α
namespace K
def pur {α : Type} (a : α) : K α := fun m => .ok a m
def bnd {α β : Type} (x : K α) (f : α → K β) : K β := fun m => match x m with
  | .ok a m' => f a m'
  | .exc e m' => .exc e m'
  | .no => .no
def stop {α : Type} : K α := fun _ => .no
def rai {α : Type} (e : Exc) : K α := fun m => .exc e m
def opt {α : Type} : Option α → K α
  | some a => pur a
  | none => stop
def chk (b : Bool) : K Unit := if b then pur () else stop
def get : K Mem := fun m => .ok m m
end K

/-! ### IR -/
inductive O2 where | add | sub | mul | fdiv | mod | pow
inductive Cm where | eq | ne | lt | le | gt | ge | isN | notN | inn | nin
inductive Ty where | int | bool | str | tup | lst | dic
inductive Bl where | len | int | str | all | any | tup | lst | sorted | min | max | dict
inductive Mt where | append | pop | get | index | update | join | split | vals

/-- further operations on values, from left to right: an error made; one whose class has a field; of a class (who is, who is not); a field; an error's text -/
inductive XO where
  | mkx (cls : Str)
  | mkf (cls fld : Str)
  | isc (cls : Str) (yes no : List Str)
  | att (cls fld : Str) (err : Bool)
  | strx (cs : List Str)
mutual
inductive E where
  | var (i : Nat)
  | glob (x : Str)
  | con (x : PyData)
  | op (o : O2) (a b : E)
  | cat (a b : E)
  | neg (a : E)
  | cmp (o : Cm) (a b : E)
  | kin (neg : Bool) (a d : E)
  | isN (a : E) | notN (a : E)
  | chain (o o' : Cm) (a b c : E)
  | and_ (a b : E) | or_ (a b : E) | not_ (a : E)
  | ite (c a b : E)
  | tup (es : Es)
  | lst (k : Bool) (es : Es)
  | dic (k : Bool) (kvs : KVs)
  | sub (a i : E)
  | slc (a : E) (lo hi : Oe)
  | rev (a : E)
  | call (f : Str) (es : Es)
  | word (f : Str) (tb : List (Str × Str)) (fine : Str) (e : E)
  | isi (t : Ty) (a : E)
  | blt (f : Bl) (es : Es)
  | sset (a : E)
  | lset (a : E)
  | lvs (a : E)
  | lrng (es : Es)
  | meth (m : Mt) (o : E) (es : Es)
  | gix (x : Str) (e : E)
  | comp (k : Bool) (own : List Nat) (elt : E) (p : Pt) (it : I) (c : Oe)
  | comp2 (own : List Nat) (elt : E) (p : Pt) (it : I) (p2 : Pt) (it2 : I)
  | ext (op : XO) (es : Es)
inductive Es where
  | nil
  | cons (e : E) (r : Es)
inductive KVs where
  | nil
  | cons (k v : E) (r : KVs)
inductive Oe where
  | no
  | yes (e : E)
inductive I where
  | of (e : E)
  | rng (es : Es)
  | zip (es : Es)
  | enu (es : Es)
  | vals (a : E)
inductive Pt where
  | v (i : Nat)
  | tup (ps : Pts)
inductive Pts where
  | nil
  | cons (p : Pt) (r : Pts)
end

end Cs

namespace Cs
open PySem

/-! ### data -/
/-- no dict within, to a depth -/
def fine : Nat → PyData → Bool
  | _, .none => true
  | _, .bool _ => true
  | _, .int _ => true
  | _, .str x => PyData.strOk x
  | n + 1, .list xs => xs.all (fine n)
  | n + 1, .tuple xs => xs.all (fine n)
  | _, _ => false
/-- what a dict's key or a set's item may be -/
def isKey : Nat → PyData → Bool
  | _, .none => true
  | _, .int _ => true
  | _, .str _ => true
  | n + 1, .tuple xs => xs.all (isKey n)
  | _, _ => false
def isTup : PyData → Bool
  | .tuple _ => true
  | _ => false
/-- an int or a text; a tuple; anything else -/
def sort : PyData → Nat
  | .int _ => 1
  | .str _ => 1
  | .tuple _ => 2
  | _ => 0
def top : Nat := 16777216
def W.dat : W → Option PyData
  | .d x => some x
  | .c _ => none
/-- a value as data: cells opened, to a depth -/
def frz (b : Nat) : Nat → Mem → W → Option PyData
  | _, _, .d x => some x
  | 0, _, .c _ => none
  | f + 1, M, .c n => if n < b then none else match M[n]? with
    | some (.lst ws) => (ws.mapM (frz b f M)).map .list
    | some (.dic kvs) => (kvs.mapM fun p => (frz b f M p.2).map fun x => (p.1, x)).map .dict
    | some (.obj _) => none
    | none => none
def rd (w : W) : K PyData := fun m => match frz 0 1 m w with
  | some x => .ok x m
  | none => .no
def rds : List W → K (List PyData)
  | [] => K.pur []
  | w :: r => (rd w).bnd fun x => (rds r).bnd fun xs => K.pur (x :: xs)
/-- the place i of n, counted from the end if it is negative -/
def place (n : Nat) (i : Int) : Option Nat := if 0 ≤ i then (if i < n then some i.toNat else none) else if -(n : Int) ≤ i then some (i + n).toNat else none
def idx {α : Type} (xs : List α) (i : Int) : Option α := (place xs.length i).bind fun k => xs[k]?
def dget {β : Type} (kvs : List (PyData × β)) (k : PyData) : Option β := (kvs.find? fun p => PyData.eqv p.1 k).map (·.2)
def dput {β : Type} (kvs : List (PyData × β)) (k : PyData) (v : β) : List (PyData × β) :=
  if kvs.any fun p => PyData.eqv p.1 k then kvs.map fun p => if PyData.eqv p.1 k then (p.1, v) else p else kvs ++ [(k, v)]
/-- k may be asked for in kvs -/
def askOk {β : Type} (kvs : List (PyData × β)) (k : PyData) : Bool := isKey 8 k && (sort k != 0 && kvs.all fun p => sort p.1 == sort k)
def putOk {β : Type} (kvs : List (PyData × β)) (k : PyData) : Bool := askOk kvs k && decide (kvs.length < top)
def distinct : List PyData → Bool
  | [] => true
  | x :: r => !(r.any fun y => PyData.eqv x y) && distinct r
def dedup : List PyData → List PyData → List PyData
  | acc, [] => acc
  | acc, x :: r => if acc.any fun y => PyData.eqv y x then dedup acc r else dedup (acc ++ [x]) r
def lt (a b : PyData) : Bool := PySem.W.dataLt a b
def alike (a b : PyData) : Bool := PySem.W.alike a b
def sortD (xs : List PyData) : List PyData := xs.mergeSort (PySem.W.dataLe false id)
def sortOk (xs : List PyData) : Bool := xs.all (fun x => xs.all (alike x)) && xs.all (fine 60) &&
  (xs.all (fun x => match x with | .tuple (_ :: _) => true | _ => false) || xs.all (fun x => match x with | .none => false | .tuple _ => false | _ => true)) && decide (xs.length ≤ top)
/-- x[lo:hi], both given or not -/
def clamp (n d : Nat) : Option Int → Nat
  | none => d
  | some v => if v < 0 then (v + (n : Int)).toNat else min v.toNat n
def cut {α : Type} (xs : List α) (lo hi : Option Int) : List α := (xs.drop (clamp xs.length 0 lo)).take (clamp xs.length xs.length hi - clamp xs.length 0 lo)

/-! ### operations on values -/
def opD : O2 → PyData → PyData → Option PyData
  | .add, .int a, .int b => some (.int (a + b))
  | .add, .str a, .str b => if a.length + b.length ≤ top then some (.str (a ++ b)) else none
  | .add, .tuple a, .tuple b => if a.length + b.length ≤ top then some (.tuple (a ++ b)) else none
  | .add, .list a, .list b => if a.length + b.length ≤ top then some (.list (a ++ b)) else none
  | .sub, .int a, .int b => some (.int (a - b))
  | .mul, .int a, .int b => if -(2 ^ 64) < a ∧ a < 2 ^ 64 ∨ -(2 ^ 64) < b ∧ b < 2 ^ 64 then some (.int (a * b)) else none
  | .mul, .list a, .int b => if 0 ≤ b ∧ b < 10000 ∧ a.length * b.toNat ≤ top then some (.list (List.replicate b.toNat a).flatten) else none
  | .mul, .tuple a, .int b => if a.isEmpty = false ∧ 2 ≤ b ∧ b ≤ 1000 ∧ a.length ≤ 1000 then some (.tuple (List.replicate b.toNat a).flatten) else none
  | .fdiv, .int a, .int b => if b ≠ 0 ∧ b.natAbs < 1073741824 then some (.int (a.fdiv b)) else none
  | .mod, .int a, .int b => if b ≠ 0 then some (.int (a.fmod b)) else none
  | .pow, .int a, .int b => if 0 ≤ b ∧ b ≤ 1000 ∧ a.natAbs < 2 ^ 64 then some (.int (a ^ b.toNat)) else none
  | _, _, _ => none
def cmpI (o : Cm) (a b : Int) : Bool := match o with
  | .lt => decide (a < b) | .le => decide (a ≤ b) | .gt => decide (b < a) | .ge => decide (b ≤ a)
  | _ => false
/-- a dict beside {} -/
def neE : PyData → PyData → Option Bool
  | .dict kvs, .dict [] => some (!kvs.isEmpty)
  | _, _ => none
def cmpD (o : Cm) (x y : PyData) : Option Bool := match o with
  | .eq => if fine 60 x && fine 60 y then some (PyData.eqv x y) else none
  | .ne => if fine 60 x && fine 60 y then some (!PyData.eqv x y) else neE x y
  | .inn | .nin =>
    let r : Option Bool := match y with
      | .list ys | .tuple ys => if fine 60 x && ys.all (fine 60) then some (ys.any fun z => PyData.eqv z x) else none
      | .dict kvs => if askOk kvs x then some (dget kvs x).isSome else none
      | .str z => (match x with
        | .str a => if a.cps.size = 1 then some (decide (a.cps.getD 0 0 ∈ z.cps.toList)) else none
        | _ => none)
      | _ => none
    match o with
    | .nin => r.map not
    | _ => r
  | .isN => match x, y with
    | .bool a, .bool b => some (decide (a = b))
    | _, _ => none
  | .notN => match x, y with
    | .bool a, .bool b => some (!decide (a = b))
    | _, _ => none
  | .lt => match x, y with
    | .int a, .int b => some (decide (a < b))
    | .none, _ => none
    | x, y => if fine 60 x && fine 60 y && alike x y then some (lt x y) else none
  | .gt | .le | .ge => match x, y with
    | .int a, .int b => some (cmpI o a b)
    | _, _ => none
def isTy : Ty → PyData → Bool
  | .int, .int _ => true | .int, .bool _ => true | .bool, .bool _ => true | .str, .str _ => true
  | .tup, .tuple _ => true | .lst, .list _ => true | .dic, .dict _ => true
  | _, _ => false
def allB : List PyData → Option (List Bool)
  | [] => some []
  | .bool b :: r => (allB r).map (b :: ·)
  | _ :: _ => none
def seqOf : PyData → Option (List PyData)
  | .list xs => some xs
  | .tuple xs => some xs
  | .dict kvs => some (kvs.map (·.1))
  | _ => none
def pairs2 : List PyData → Option (List (PyData × PyData))
  | [] => some []
  | .tuple [a, b] :: r => (pairs2 r).map ((a, b) :: ·)
  | _ :: _ => none
/-- dict(pairs) -/
def dmake : List (PyData × PyData) → List (PyData × PyData) → Option (List (PyData × PyData))
  | acc, [] => some acc
  | acc, (k, v) :: r => if putOk acc k then dmake (dput acc k v) r else none
/-- the keys of a display: ints or texts, all apart; or one tuple -/
def dispOk (ps : List (PyData × PyData)) : Bool := decide (ps.length ≤ 15) && ((ps.all (fun p => sort p.1 == 1) && distinct (ps.map (·.1))) || (decide (ps.length = 1) && ps.all (fun p => sort p.1 == 2 && isKey 8 p.1)))
def least (f : PyData → PyData → Bool) : PyData → List PyData → PyData
  | x, [] => x
  | x, y :: r => least f (if f y x then y else x) r
def minmax (big : Bool) (xs : List PyData) : Option PyData :=
  match xs with
  | [] => none
  | x :: r => if xs.all (fun a => xs.all (alike a)) && xs.all (fine 60) && decide (xs.length ≤ top) then
      some (least (fun a b => if big then lt b a else lt a b) x r) else none
def leastD : List PyData → Option PyData
  | [] => none
  | x :: r => if sortOk (x :: r) then some (r.foldl (fun a y => if lt y a then y else a) x) else none
def bltD : Bl → List PyData → Option PyData
  | .len, [.list xs] => some (.int xs.length)
  | .len, [.tuple xs] => some (.int xs.length)
  | .len, [.dict xs] => some (.int xs.length)
  | .len, [.str s] => if s.length ≤ top then some (.int s.length) else none
  | .int, [.int i] => some (.int i)
  | .int, [.bool b] => some (.int (if b then 1 else 0))
  | .int, [.str a] => if a.length ≤ 640 then (PySem.intText? a).map .int else none
  | .str, [.str s] => some (.str s)
  | .str, [.int i] => if i.natAbs.log2 < 1920 then some (.str (Str.ofString (toString i))) else none
  | .all, [.list xs] => (allB xs).map fun bs => .bool (bs.all id)
  | .any, [.list xs] => (allB xs).map fun bs => .bool (bs.any id)
  | .tup, [.list xs] => some (.tuple xs)
  | .tup, [.tuple xs] => some (.tuple xs)
  | .lst, [.list xs] => some (.list xs)
  | .lst, [.tuple xs] => some (.list xs)
  | .lst, [.dict kvs] => some (.list (kvs.map (·.1)))
  | .sorted, [.list xs] => if sortOk xs then some (.list (sortD xs)) else none
  | .sorted, [.dict kvs] => if sortOk (kvs.map (·.1)) then some (.list (sortD (kvs.map (·.1)))) else none
  | .min, [.list xs] => leastD xs
  | .max, [.int a, .int b] => some (.int (if a < b then b else a))
  | .dict, [.list xs] => (pairs2 xs).bind fun ps => (dmake [] ps).map .dict
  | _, _ => none
/-- a list's or a tuple's items -/
def seq2 : PyData → Option (List PyData)
  | .list xs => some xs
  | .tuple xs => some xs
  | _ => none
/-- a set may be made of xs -/
def setOk (xs : List PyData) : Bool := ((xs.all (fun x => sort x == 1) && decide ((dedup [] xs).length < 4096)) || (xs.all (fun x => sort x == 2 && isKey 8 x) && decide ((dedup [] xs).length < 64))) && decide (xs.length ≤ top)
def ssetD (x : PyData) : Option PyData := (seq2 x).bind fun xs => if setOk xs && sortOk (dedup [] xs) then some (.list (sortD (dedup [] xs))) else none
def lsetD (x : PyData) : Option PyData := (seq2 x).bind fun xs => if setOk xs then some (.int (dedup [] xs).length) else none
end Cs

namespace Cs
open PySem
/-! ### the interpreter -/
structure Ora where
  base : Nat
  glob : Str → Option PyData
  fn : Str → List W → K W

def alloc (c : Cell) : K W := fun m => .ok (.c m.length) (m ++ [c])
def look (n : Nat) : K Cell := fun m => match m[n]? with
  | some c => .ok c m
  | none => .no
/-- w may be written into the cell n -/
def mayPut (base n : Nat) : W → Bool
  | .d _ => true
  | .c _ => decide (base ≤ n)
def put (n : Nat) (c : Cell) : K Unit := fun m => .ok () (m.set n c)
def dat (w : W) : K PyData := K.opt w.dat
def slot (σ : Sl) (i : Nat) : K W := match σ[i]? with
  | some (some w) => K.pur w
  | _ => K.stop
/-- the items of a list (a cell too), as they are -/
def wsOf : W → K (List W)
  | .d (.list xs) => K.pur (xs.map W.d)
  | .c n => (look n).bnd fun c => match c with
    | .lst ws => K.pur ws
    | .dic _ => K.stop
    | .obj _ => K.stop
  | .d _ => K.stop
def subW (a i : W) : K W := match a with
  | .c n => (look n).bnd fun c => (rd i).bnd fun k => match c, k with
    | .lst ws, .int j => K.opt (idx ws j)
    | .dic kvs, k => if askOk kvs k then K.opt (dget kvs k) else K.stop
    | _, _ => K.stop
  | .d x => (rd i).bnd fun k => match x, k with
    | .list xs, .int j => K.opt ((idx xs j).map W.d)
    | .tuple xs, .int j => K.opt ((idx xs j).map W.d)
    | .dict kvs, k => if askOk kvs k then K.opt ((dget kvs k).map W.d) else K.stop
    | _, _ => K.stop
/-- x[i] = w -/
def putW (base : Nat) (a i w : W) : K Unit := match a with
  | .c n => if mayPut base n w then (look n).bnd fun c => (rd i).bnd fun k => match c, k with
    | .lst ws, .int j => (K.opt (place ws.length j)).bnd fun p => put n (.lst (ws.set p w))
    | .dic kvs, k => if putOk kvs k then put n (.dic (dput kvs k w)) else K.stop
    | _, _ => K.stop else K.stop
  | .d _ => K.stop
def strsOf : List PyData → Option (List Str)
  | [] => some []
  | .str s :: r => (strsOf r).map (s :: ·)
  | _ :: _ => none
def joinOk (y : Str) (ss : List Str) : Bool := decide ((ss.map (·.length)).sum + ss.length * y.length ≤ top)
def joinD (y : Str) : PyData → Option PyData
  | .list xs => (strsOf xs).bind fun ss => if joinOk y ss then some (.str (PySem.Txt.join y ss)) else none
  | _ => none
def splitD (x : Str) : PyData → Option PyData
  | .str y => if (y.length == 0) = false ∧ x.length + 2 ≤ top then some (.list ((PySem.Txt.split x y).map .str)) else none
  | _ => none
def methW (base : Nat) (m : Mt) (o : W) (ws : List W) : K W := match m, ws with
  | .append, [w] => (match o with
    | .c n => if mayPut base n w then (look n).bnd fun c => match c with
      | .lst us => if us.length < top then (put n (.lst (us ++ [w]))).bnd fun _ => K.pur (W.d .none) else K.stop
      | .dic _ => K.stop
      | .obj _ => K.stop else K.stop
    | .d _ => K.stop)
  | .pop, [] => (match o with
    | .c n => (look n).bnd fun c => match c with
      | .lst us => (match us.getLast? with
        | some w => (put n (.lst us.dropLast)).bnd fun _ => K.pur w
        | none => K.stop)
      | .dic _ => K.stop
      | .obj _ => K.stop
    | .d _ => K.stop)
  | .get, k :: r => (rd k).bnd fun k => (match r with
    | [] => K.pur (W.d .none)
    | [z] => K.pur z
    | _ => K.stop).bnd fun z => (match o with
      | .c n => (look n).bnd fun c => match c with
        | .dic kvs => if askOk kvs k then K.pur ((dget kvs k).getD z) else K.stop
        | .lst _ => K.stop
        | .obj _ => K.stop
      | .d (.dict kvs) => if askOk kvs k then K.pur (((dget kvs k).map W.d).getD z) else K.stop
      | .d _ => K.stop)
  | .join, [w] => (match o with
    | .d (.str y) => (rd w).bnd fun x => K.opt ((joinD y x).map W.d)
    | _ => K.stop)
  | .split, [w] => (match o with
    | .d (.str x) => (rd w).bnd fun y => K.opt ((splitD x y).map W.d)
    | _ => K.stop)
  | .index, [w] => (rd w).bnd fun k => (rd o).bnd fun x => match x with
    | .list xs => if fine 60 k && (xs.all (fine 60) && ((xs.any fun z => PyData.eqv z k) && decide (xs.length ≤ top))) then K.pur (W.d (.int ((xs.map fun z => PyData.eqv z k).idxOf true : Nat))) else K.stop
    | .tuple xs => if fine 60 k && (xs.all (fine 60) && ((xs.any fun z => PyData.eqv z k) && decide (xs.length ≤ top))) then K.pur (W.d (.int ((xs.map fun z => PyData.eqv z k).idxOf true : Nat))) else K.stop
    | _ => K.stop
  | .update, [w] => (match o, w with
    | .c n, .c j => if n = j then K.stop else (look n).bnd fun c => (look j).bnd fun e => match c, e with
      | .dic [], .dic [] => (put n (.dic [])).bnd fun _ => K.pur (W.d .none)
      | _, _ => K.stop
    | _, _ => K.stop)
  | _, _ => K.stop

/-- x in d, of a dict that may still change -/
def kinW (neg : Bool) (x y : W) : K W := match y with
  | .c n => (look n).bnd fun c => (rd x).bnd fun k => match c with
    | .dic kvs => if askOk kvs k then K.pur (W.d (.bool (neg != (dget kvs k).isSome))) else K.stop
    | .lst _ => K.stop
    | .obj _ => K.stop
  | .d _ => K.stop
/-- the receiver has the method -/
def recOk (m : Mt) (o : W) : K Unit := match m with
  | .append | .pop => (match o with
    | .c n => (look n).bnd fun c => match c with
      | .lst _ => K.pur ()
      | .dic _ => K.stop
      | .obj _ => K.stop
    | .d _ => K.stop)
  | .get | .update => (rd o).bnd fun x => match x with
    | .dict _ => K.pur ()
    | _ => K.stop
  | .index => (rd o).bnd fun x => match x with
    | .list _ => K.pur ()
    | _ => K.stop
  | .join | .split => (rd o).bnd fun x => match x with
    | .str _ => K.pur ()
    | _ => K.stop
  | .vals => K.stop

/-! ### binding -/
mutual
/-- a target takes a value: names in slots; several names take a tuple (or a list) of so many -/
def bindP : Pt → W → Sl → Option Sl
  | .v i, w, σ => if i < σ.length then some (σ.set i (some w)) else none
  | .tup ps, .d (.tuple xs), σ => bindPs ps (xs.map W.d) σ
  | .tup _, _, _ => none
def bindPs : Pts → List W → Sl → Option Sl
  | .nil, [], σ => some σ
  | .cons p r, w :: ws, σ => (bindP p w σ).bind fun σ' => bindPs r ws σ'
  | _, _, _ => none
end

/-! ### what is walked -/
inductive Iter where
  | items (ws : List W)
  | live (n : Nat)
def iterOf (w : W) : K Iter := match w with
  | .d (.list xs) => K.pur (.items (xs.map W.d))
  | .d (.tuple xs) => K.pur (.items (xs.map W.d))
  | .d (.dict kvs) => K.pur (.items (kvs.map fun p => .d p.1))
  | .d _ => K.stop
  | .c n => (look n).bnd fun c => match c with
    | .lst _ => K.pur (.live n)
    | .dic _ => K.stop
    | .obj _ => K.stop
def rangeD (a b : Int) : List W := (List.range (b - a).toNat).map fun k => .d (.int (a + (k : Nat)))
def zipD (xs ys : List PyData) : List W := (xs.zip ys).map fun p => .d (.tuple [p.1, p.2])
def enumD (xs : List PyData) : List W := xs.zipIdx.map fun p => .d (.tuple [.int p.2, p.1])
def small (i : Int) : Bool := decide (-(2 ^ 62) ≤ i) && decide (i < 2 ^ 62)
/-- list(d.values()); list(range(..)) -/
def lvsD : PyData → Option PyData
  | .dict kvs => some (.list (kvs.map (·.2)))
  | _ => none
def intsL (i j : Int) : List PyData := (List.range (j - i).toNat).map fun k : Nat => PyData.int (i + (k : Int))
def lrngD : List PyData → Option PyData
  | [.int j] => if small j && decide (j ≤ 1000000) then some (.list (intsL 0 j)) else none
  | [.int i, .int j] => if small i && small j && decide (j - i ≤ 1000000) then some (.list (intsL i j)) else none
  | _ => none
def rngW (ws : List W) : K Iter := match ws with
  | [.d (.int j)] => if small j then K.pur (.items (rangeD 0 j)) else K.stop
  | [.d (.int i), .d (.int j)] => if small i && small j then K.pur (.items (rangeD i j)) else K.stop
  | _ => K.stop
def zipW (ws : List W) : K Iter := match ws with
  | [.d (.list xs), .d (.list ys)] => K.pur (.items (zipD xs ys))
  | [.d (.tuple xs), .d (.tuple ys)] => K.pur (.items (zipD xs ys))
  | _ => K.stop
def enuW (ws : List W) : K Iter := match ws with
  | [.d (.list xs)] => K.pur (.items (enumD xs))
  | [.d (.tuple xs)] => K.pur (.items (enumD xs))
  | _ => K.stop
def valsW (x : W) : K Iter := match x with
  | .d (.dict kvs) => K.pur (.items (kvs.map fun p => .d p.2))
  | _ => K.stop
/-- the list at n as it stands in turn i -/
def turnAt (n i : Nat) : K W := (look n).bnd fun c => match c with
  | .lst ws => K.opt ws[i]?
  | .dic _ => K.stop
  | .obj _ => K.stop
def lenAt (n : Nat) : K Nat := (look n).bnd fun c => match c with
  | .lst ws => K.pur ws.length
  | .dic _ => K.stop
  | .obj _ => K.stop
/-- a fold over what is walked; the body says whether it goes on -/
def foldI {S : Type} (body : W → S → K (Bool × S)) : List W → S → K (Bool × S)
  | [], s => K.pur (true, s)
  | w :: r, s => (body w s).bnd fun p => if p.1 then foldI body r p.2 else K.pur p
def foldL {S : Type} (body : W → S → K (Bool × S)) (n : Nat) : Nat → Nat → S → K (Bool × S)
  | 0, i, s => (lenAt n).bnd fun l => if l = i then K.pur (true, s) else K.stop
  | f + 1, i, s => (turnAt n i).bnd fun w => (body w s).bnd fun p => if p.1 then foldL body n f (i + 1) p.2 else K.pur p
def foldK {S : Type} (body : W → S → K (Bool × S)) : Iter → S → K (Bool × S)
  | .items ws, s => foldI body ws s
  | .live n, s => (lenAt n).bnd fun l => foldL body n l 0 s

def wipe (σ : Sl) : List Nat → Sl
  | [] => σ
  | v :: vs => (wipe σ vs).set v none
def bool (w : W) : K Bool := match w with
  | .d (.bool b) => K.pur b
  | _ => K.stop
def isNo (w : W) : Bool := match w with
  | .d .none => true
  | _ => false
/-- no exception is known to leave -/
def quiet {α : Type} (x : K α) : K α := fun m => match x m with
  | .exc _ _ => .no
  | r => r
def lstW (k : Bool) (ws : List W) : K W := if ws.length ≤ top then (if k then alloc (.lst ws) else K.opt ((ws.mapM W.dat).map fun xs => W.d (.list xs))) else K.stop
def intOf (x : PyData) : Option Int := match x with
  | .int i => some i
  | _ => none

def dispW (k : Bool) (ps : List (PyData × PyData)) : K W := if dispOk ps then (if k then alloc (.dic (ps.map fun p => (p.1, .d p.2))) else K.pur (W.d (.dict ps))) else K.stop
def tupW (ws : List W) : K W := if ws.length ≤ top then K.opt ((ws.mapM W.dat).map fun xs => W.d (.tuple xs)) else K.stop
def slcW (x : W) (l h : Option Int) : K W := (rd x).bnd fun x => match x with
  | .list xs => K.pur (W.d (.list (cut xs l h)))
  | .tuple xs => K.pur (W.d (.tuple (cut xs l h)))
  | _ => K.stop
def revW (x : W) : K W := (rd x).bnd fun x => match x with
  | .list xs => K.pur (W.d (.list xs.reverse))
  | _ => K.stop
/-- xs + ys of lists, whatever they hold -/
def catW (x y : W) : K W := (wsOf x).bnd fun x => (wsOf y).bnd fun y => lstW true (x ++ y)
mutual
/-- the slots of a target -/
def asgdP : Pt → List Nat
  | .v i => [i]
  | .tup ps => asgdPs ps
def asgdPs : Pts → List Nat
  | .nil => []
  | .cons p r => asgdP p ++ asgdPs r
end
/-- a turn of a comprehension -/
def cBody (own : List Nat) (p : Pt) (rt : Sl → K Bool) (re : Sl → K W) (σ : Sl) (w : W) (acc : List W) : K (Bool × List W) := (K.opt (bindP p w (wipe σ own))).bnd fun σ' =>
  (quiet (rt σ')).bnd fun t => if t then (quiet (re σ')).bnd fun y => if acc.length < top then K.pur (true, acc ++ [y]) else K.stop else K.pur (true, acc)
def cIn (p2 : Pt) (re : Sl → K W) (σ' : Sl) (w2 : W) (acc : List W) : K (Bool × List W) := (K.opt (bindP p2 w2 (wipe σ' (asgdP p2)))).bnd fun σ2 =>
  (quiet (re σ2)).bnd fun y => if acc.length < top then K.pur (true, acc ++ [y]) else K.stop
def cBody2 (own : List Nat) (p p2 : Pt) (ri : Sl → K Iter) (re : Sl → K W) (σ : Sl) (w : W) (acc : List W) : K (Bool × List W) := (K.opt (bindP p w (wipe σ own))).bnd fun σ' =>
  (quiet (ri σ')).bnd fun J2 => foldK (cIn p2 re σ') J2 acc

/-- the object at w -/
def obAt : W → K ObD
  | .c n => (look n).bnd fun c => match c with
    | .obj o => K.pur o
    | .lst _ => K.stop
    | .dic _ => K.stop
  | .d _ => K.stop
def xW (O : Ora) : XO → List W → K W
  | .mkx cls, [.d (.str m)] => alloc (.obj ⟨true, cls, some m, []⟩)
  | .mkf cls fld, [.d x] => alloc (.obj ⟨true, cls, none, [(fld, x)]⟩)
  | .isc _ yes no, [w] => (obAt w).bnd fun o => if o.err then (if yes.contains o.cls then K.pur (W.d (.bool true)) else if no.contains o.cls then K.pur (W.d (.bool false)) else K.stop) else K.stop
  | .att cls fld err, [w] => (obAt w).bnd fun o => if o.cls = cls ∧ o.err = err then K.opt ((o.fs.lookup fld).map W.d) else K.stop
  | .strx cs, [w] => (obAt w).bnd fun o => if o.err && cs.contains o.cls then K.opt (o.txt.map fun m => W.d (.str m)) else K.stop
  | _, _ => K.stop
/-- what a helper makes of a call: a text for each kind of error, one for none -/
def wordK (tb : List (Str × Str)) (fine : Str) (r : K W) : K W := fun m => match r m with
  | .ok _ m' => .ok (.d (.str fine)) m'
  | .exc e m' => (match tb.lookup e.cls with
    | some t => .ok (.d (.str t)) m'
    | none => .no)
  | .no => .no
mutual
def ev (O : Ora) (σ : Sl) : E → K W
  | .var i => slot σ i
  | .glob x => K.opt ((O.glob x).map W.d)
  | .con x => K.pur (W.d x)
  | .op o a b => (ev O σ a).bnd fun x => (ev O σ b).bnd fun y => (rd x).bnd fun x => (rd y).bnd fun y => K.opt ((opD o x y).map W.d)
  | .cat a b => (ev O σ a).bnd fun x => (ev O σ b).bnd fun y => catW x y
  | .neg a => (ev O σ a).bnd fun x => (rd x).bnd fun x => K.opt ((intOf x).map fun i => W.d (.int (-i)))
  | .cmp o a b => (ev O σ a).bnd fun x => (ev O σ b).bnd fun y => (rd x).bnd fun x => (rd y).bnd fun y => K.opt ((cmpD o x y).map fun b => W.d (.bool b))
  | .kin neg a d => (ev O σ a).bnd fun x => (ev O σ d).bnd fun y => kinW neg x y
  | .isN a => (ev O σ a).bnd fun x => K.pur (W.d (.bool (isNo x)))
  | .notN a => (ev O σ a).bnd fun x => K.pur (W.d (.bool (!isNo x)))
  | .chain o o' a b c => (ev O σ a).bnd fun x => (ev O σ b).bnd fun y => (rd x).bnd fun x => (K.opt y.dat).bnd fun y => (K.opt (cmpD o x y)).bnd fun t =>
      if t then (ev O σ c).bnd fun z => (rd z).bnd fun z => K.opt ((cmpD o' y z).map fun b => W.d (.bool b)) else K.pur (W.d (.bool false))
  | .and_ a b => (ev O σ a).bnd fun x => (bool x).bnd fun t => if t then (ev O σ b).bnd fun y => (bool y).bnd fun u => K.pur (W.d (.bool u)) else K.pur (W.d (.bool false))
  | .or_ a b => (ev O σ a).bnd fun x => (bool x).bnd fun t => if t then K.pur (W.d (.bool true)) else (ev O σ b).bnd fun y => (bool y).bnd fun u => K.pur (W.d (.bool u))
  | .not_ a => (ev O σ a).bnd fun x => (bool x).bnd fun t => K.pur (W.d (.bool (!t)))
  | .ite c a b => (ev O σ c).bnd fun x => (bool x).bnd fun t => if t then ev O σ a else ev O σ b
  | .tup es => (evs O σ es).bnd tupW
  | .lst k es => (evs O σ es).bnd (lstW k)
  | .dic k kvs => (evk O σ kvs).bnd (dispW k)
  | .sub a i => (ev O σ a).bnd fun x => (ev O σ i).bnd fun y => subW x y
  | .slc a lo hi => (ev O σ a).bnd fun x => (evo O σ lo).bnd fun l => (evo O σ hi).bnd fun h => slcW x l h
  | .rev a => (ev O σ a).bnd revW
  | .call f es => (evs O σ es).bnd fun ws => O.fn f ws
  | .word _ tb fine e => wordK tb fine (ev O σ e)
  | .isi t a => (ev O σ a).bnd fun x => (rd x).bnd fun x => K.pur (W.d (.bool (isTy t x)))
  | .blt f es => (evs O σ es).bnd fun ws => (rds ws).bnd fun xs => K.opt ((bltD f xs).map W.d)
  | .sset a => (ev O σ a).bnd fun x => (rd x).bnd fun x => K.opt ((ssetD x).map W.d)
  | .lset a => (ev O σ a).bnd fun x => (rd x).bnd fun x => K.opt ((lsetD x).map W.d)
  | .lvs a => (ev O σ a).bnd fun x => (rd x).bnd fun x => K.opt ((lvsD x).map W.d)
  | .lrng es => (evs O σ es).bnd fun ws => (rds ws).bnd fun xs => K.opt ((lrngD xs).map W.d)
  | .meth m o es => (ev O σ o).bnd fun x => (recOk m x).bnd fun _ => (evs O σ es).bnd fun ws => methW O.base m x ws
  | .gix x e => (ev O σ e).bnd fun w => (K.opt (O.glob x)).bnd fun d => methW O.base .index (.d d) [w]
  | .comp k own elt p it c => (evi O σ it).bnd fun J => (foldK (cBody own p (fun σ' => evc O σ' c) (fun σ' => ev O σ' elt) σ) J []).bnd fun r => lstW k r.2
  | .ext op es => (evs O σ es).bnd (xW O op)
  | .comp2 own elt p it p2 it2 => (evi O σ it).bnd fun J => (foldK (cBody2 own p p2 (fun σ' => evi O σ' it2) (fun σ' => ev O σ' elt) σ) J []).bnd fun r => lstW false r.2
def evs (O : Ora) (σ : Sl) : Es → K (List W)
  | .nil => K.pur []
  | .cons e r => (ev O σ e).bnd fun w => (evs O σ r).bnd fun ws => K.pur (w :: ws)
def evk (O : Ora) (σ : Sl) : KVs → K (List (PyData × PyData))
  | .nil => K.pur []
  | .cons k v r => (ev O σ k).bnd fun a => (ev O σ v).bnd fun b => (evk O σ r).bnd fun ps => (dat a).bnd fun a => (dat b).bnd fun b => K.pur ((a, b) :: ps)
def evo (O : Ora) (σ : Sl) : Oe → K (Option Int)
  | .no => K.pur none
  | .yes e => (ev O σ e).bnd fun w => (rd w).bnd fun x => K.opt ((intOf x).map some)
def evc (O : Ora) (σ : Sl) : Oe → K Bool
  | .no => K.pur true
  | .yes e => (ev O σ e).bnd fun w => bool w
def evi (O : Ora) (σ : Sl) : I → K Iter
  | .of e => (ev O σ e).bnd fun w => iterOf w
  | .rng es => (evs O σ es).bnd rngW
  | .zip es => (evs O σ es).bnd zipW
  | .enu es => (evs O σ es).bnd enuW
  | .vals a => (ev O σ a).bnd fun x => valsW x
end
end Cs

namespace Cs
open PySem
/-! ### statements -/
mutual
inductive S where
  | asg (p : Pt) (e : E)
  | asgs (ps : Pts) (es : Es)
  | asgt (ps : Pts) (es : Es)
  | put (a i e : E)
  | ex (e : E)
  | ite (c : E) (a b : Ss)
  | for_ (p : Pt) (it : I) (b : Ss)
  | while_ (c : E) (b : Ss)
  | ret (e : E)
  | retN
  | pass
  | stuck
  | rai (cls : Str) (a : E)
  | raif (cls : Str) (a : E)
  | try_ (b : Ss) (hs : Hs)
inductive Ss where
  | nil
  | cons (s : S) (r : Ss)
  | blk (b : Ss) (is : List Nat) (r : Ss)
inductive Hs where
  | nil
  | cons (cls : Str) (b : Ss) (r : Hs)
end

/-- how a block ends: it goes on, or it returns -/
inductive Fl where
  | nx
  | rt (w : W)

section whiles
variable {A : Type}
def whlN (c : A → K Bool) (b : A → K (Bool × A)) : Nat → A → K (Bool × A)
  | 0, _ => K.stop
  | n + 1, s => (c s).bnd fun t => if t then (b s).bnd fun p => if p.1 then whlN c b n p.2 else K.pur p else K.pur (true, s)
open Classical in
noncomputable def whl (c : A → K Bool) (b : A → K (Bool × A)) (s : A) : K (Bool × A) := fun m =>
  if h : ∃ n, whlN c b n s m ≠ .no then whlN c b h.choose s m else .no
theorem whlN_up {c : A → K Bool} {b : A → K (Bool × A)} : ∀ (n : Nat) (s : A) (m : Mem), whlN c b n s m ≠ .no → whlN c b (n + 1) s m = whlN c b n s m := by
  intro n
  induction n with
  | zero => intro s m h; exact absurd rfl h
  | succ n ih =>
    intro s m h
    rw [whlN, whlN]
    rw [whlN] at h
    unfold K.bnd at h ⊢
    cases hc : c s m with
    | no => rfl
    | exc e m' => rfl
    | ok t m' =>
      rw [hc] at h
      simp only at h ⊢
      cases t with
      | false => rfl
      | true =>
        simp only [if_true] at h ⊢
        cases hb : b s m' with
        | no => rfl
        | exc e m2 => rfl
        | ok p m2 =>
          rw [hb] at h
          simp only at h ⊢
          cases hp : p.1 with
          | false => rfl
          | true =>
            rw [hp] at h
            simp only [if_true] at h ⊢
            exact ih p.2 m2 h
theorem whlN_le {c : A → K Bool} {b : A → K (Bool × A)} {n k : Nat} {s : A} {m : Mem} (hk : n ≤ k) (h : whlN c b n s m ≠ .no) : whlN c b k s m = whlN c b n s m := by
  induction k with
  | zero => have : n = 0 := by omega
            subst this; rfl
  | succ k ih =>
    by_cases e : n = k + 1
    · rw [e]
    · have q := ih (by omega)
      rw [whlN_up k s m (by rw [q]; exact h), q]
theorem whl_of {c : A → K Bool} {b : A → K (Bool × A)} {n : Nat} {s : A} {m : Mem} (h : whlN c b n s m ≠ .no) : whl c b s m = whlN c b n s m := by
  unfold whl
  have hx : ∃ n, whlN c b n s m ≠ .no := ⟨n, h⟩
  rw [dif_pos hx]
  rcases Nat.le_total n hx.choose with q | q
  · exact whlN_le q h
  · exact (whlN_le q hx.choose_spec).symm
theorem whl_no {c : A → K Bool} {b : A → K (Bool × A)} {s : A} {m : Mem} (h : ∀ n, whlN c b n s m = .no) : whl c b s m = .no := by
  unfold whl
  rw [dif_neg]
  rintro ⟨n, q⟩
  exact q (h n)
theorem whl_ex {c : A → K Bool} {b : A → K (Bool × A)} {s : A} {m : Mem} (h : whl c b s m ≠ .no) : ∃ n, whlN c b n s m = whl c b s m ∧ whlN c b n s m ≠ .no := by
  unfold whl at h ⊢
  by_cases hx : ∃ n, whlN c b n s m ≠ .no
  · rw [dif_pos hx] at h ⊢
    exact ⟨_, rfl, h⟩
  · rw [dif_neg hx] at h
    exact absurd rfl h
theorem whl_eq (c : A → K Bool) (b : A → K (Bool × A)) (s : A) (m : Mem) :
    whl c b s m = ((c s).bnd fun t => if t then (b s).bnd fun p => if p.1 then whl c b p.2 else K.pur p else K.pur (true, s)) m := by
  by_cases hx : ∃ n, whlN c b n s m ≠ .no
  · obtain ⟨n, hn⟩ := hx
    rw [whl_of hn]
    cases n with
    | zero => exact absurd rfl hn
    | succ n =>
      rw [whlN] at hn ⊢
      unfold K.bnd at hn ⊢
      cases hc : c s m with
      | no => rfl
      | exc e m' => rfl
      | ok t m' =>
        rw [hc] at hn
        simp only at hn ⊢
        cases t with
        | false => rfl
        | true =>
          simp only [if_true] at hn ⊢
          cases hb : b s m' with
          | no => rfl
          | exc e m2 => rfl
          | ok p m2 =>
            rw [hb] at hn
            simp only at hn ⊢
            cases hp : p.1 with
            | false => rfl
            | true =>
              rw [hp] at hn
              simp only [if_true] at hn ⊢
              exact (whl_of hn).symm
  · have hno : ∀ n, whlN c b n s m = .no := fun n => Classical.byContradiction fun q => hx ⟨n, q⟩
    rw [whl_no hno]
    unfold K.bnd
    cases hc : c s m with
    | no => rfl
    | exc e m' => have := hno 1; rw [whlN] at this; unfold K.bnd at this; rw [hc] at this; cases this
    | ok t m' =>
      cases t with
      | false => have := hno 1; rw [whlN] at this; unfold K.bnd at this; rw [hc] at this; cases this
      | true =>
        simp only [if_true]
        cases hb : b s m' with
        | no => rfl
        | exc e m2 => have := hno 1; rw [whlN] at this; unfold K.bnd at this; rw [hc] at this; simp only [if_true, hb] at this; cases this
        | ok p m2 =>
          simp only
          cases hp : p.1 with
          | false => have := hno 1; rw [whlN] at this; unfold K.bnd at this; rw [hc] at this; simp only [if_true, hb, hp] at this; cases this
          | true =>
            simp only [if_true]
            refine (whl_no fun n => ?_).symm
            have := hno (n + 1)
            rw [whlN] at this; unfold K.bnd at this; rw [hc] at this; simp only [if_true, hb, hp] at this
            exact this
end whiles

mutual
/-- the slots that a block may store -/
def asgd : S → List Nat
  | .asg p _ => asgdP p
  | .asgs ps _ => asgdPs ps
  | .asgt ps _ => asgdPs ps
  | .ite _ a b => asgdS a ++ asgdS b
  | .for_ p _ b => asgdP p ++ asgdS b
  | .while_ _ b => asgdS b
  | .try_ b hs => asgdS b ++ asgdH hs
  | _ => []
def asgdS : Ss → List Nat
  | .nil => []
  | .cons s r => asgd s ++ asgdS r
  | .blk b _ r => asgdS b ++ asgdS r
def asgdH : Hs → List Nat
  | .nil => []
  | .cons _ b r => asgdS b ++ asgdH r
end

/-- the slots without the cells from b on -/
def clean (b : Nat) (σ : Sl) : Sl := σ.map fun o => match o with
  | some (.c n) => if n < b then some (.c n) else none
  | o => o
/-- some slots closed: their cells as data -/
def frzS (b : Nat) (M : Mem) (σ : Sl) : List Nat → Option Sl
  | [] => some (clean b σ)
  | i :: r => (frzS b M σ r).bind fun σ' => match σ[i]? with
    | some (some w) => (frz b 4 M w).map fun x => σ'.set i (some (.d x))
    | _ => none
/-- some statements whose cells are gone behind them, but for what some slots hold: that is data then -/
def blkW (run : Nat → Sl → K (Fl × Sl)) (is : List Nat) (σ : Sl) : K Sl := fun m => match run m.length σ m with
  | .ok q m' => (match q.1 with
    | .nx => (match frzS m.length m' q.2 is with
      | some σ' => .ok σ' (m'.take m.length)
      | none => .no)
    | .rt _ => .no)
  | .exc e m' => .exc e (m'.take m.length)
  | .no => .no

/-- what of classes of errors is known: the attribute of each; which is one of which -/
structure Ora2 extends Ora where
  att : Str → Option (Option Str)
  sub : Str → Str → Bool

def mkExc (O : Ora2) (cls : Str) (x : PyData) : K Exc := match O.att cls with
  | some none => K.pur ⟨cls, none⟩
  | some (some a) => K.pur ⟨cls, some (a, x)⟩
  | none => K.stop

mutual
noncomputable def ex (O : Ora2) : S → Sl → K (Fl × Sl)
  | .asg p e, σ => (ev O.toOra σ e).bnd fun w => (K.opt (bindP p w σ)).bnd fun σ' => K.pur (.nx, σ')
  | .asgs ps es, σ => (evs O.toOra σ es).bnd fun ws => (K.opt (bindPs ps ws σ)).bnd fun σ' => K.pur (.nx, σ')
  | .asgt ps es, σ => (evs O.toOra σ es).bnd fun ws => (K.opt (bindPs ps ws σ)).bnd fun σ' => K.pur (.nx, σ')
  | .put a i e, σ => (ev O.toOra σ e).bnd fun w => (ev O.toOra σ a).bnd fun x => (ev O.toOra σ i).bnd fun y => (putW O.base x y w).bnd fun _ => K.pur (.nx, σ)
  | .ex e, σ => (ev O.toOra σ e).bnd fun _ => K.pur (.nx, σ)
  | .ite c a b, σ => (ev O.toOra σ c).bnd fun x => (bool x).bnd fun t => if t then exs O a σ else exs O b σ
  | .for_ p it b, σ => (evi O.toOra σ it).bnd fun J => (foldK (fun w (s : Fl × Sl) => (K.opt (bindP p w s.2)).bnd fun σ' =>
      (exs O b σ').bnd fun r => K.pur (match r.1 with | .nx => true | .rt _ => false, r)) J (.nx, σ)).bnd fun r => K.pur r.2
  | .while_ c b, σ => (whl (fun (s : Fl × Sl) => (ev O.toOra s.2 c).bnd fun x => bool x)
      (fun s => (exs O b s.2).bnd fun r => K.pur (match r.1 with | .nx => true | .rt _ => false, r)) (.nx, σ)).bnd fun r => K.pur r.2
  | .ret e, σ => (ev O.toOra σ e).bnd fun w => K.pur (.rt w, σ)
  | .retN, σ => K.pur (.rt (.d .none), σ)
  | .pass, σ => K.pur (.nx, σ)
  | .stuck, _ => K.stop
  | .rai cls a, σ => (ev O.toOra σ a).bnd fun w => (rd w).bnd fun x => (mkExc O cls x).bnd fun e => K.rai e
  | .raif cls a, σ => (ev O.toOra σ a).bnd fun w => (dat w).bnd fun x => (mkExc O cls x).bnd fun e => K.rai e
  | .try_ b hs, σ => fun m => match exs O b σ m with
      | .exc e m' => exh O hs e (wipe σ (asgdS b)) m'
      | r => r
noncomputable def exs (O : Ora2) : Ss → Sl → K (Fl × Sl)
  | .nil, σ => K.pur (.nx, σ)
  | .cons s r, σ => (ex O s σ).bnd fun q => match q.1 with
      | .nx => exs O r q.2
      | .rt w => K.pur (.rt w, q.2)
  | .blk b is r, σ => (blkW (fun n => exs ⟨⟨n, O.glob, O.fn⟩, O.att, O.sub⟩ b) is σ).bnd fun σ' => exs O r σ'
noncomputable def exh (O : Ora2) : Hs → Exc → Sl → K (Fl × Sl)
  | .nil, e, _ => K.rai e
  | .cons cls b r, e, σ => if (O.att e.cls).isSome then (if O.sub e.cls cls then quiet (exs O b σ) else exh O r e σ) else K.stop
end

/-! ### defs -/
structure FnD where
  np : Nat
  ns : Nat
  keep : Bool
  body : Ss
structure Info where
  glob : Str → Option PyData
  fns : Str → Option FnD
  att : Str → Option (Option Str)
  sub : Str → Str → Bool

def Fl.val : Fl → W
  | .nx => .d .none
  | .rt w => w
/-- what is left when a def is left: its own cells are gone -/
def leave (b : Nat) (keep : Bool) : Res (Fl × Sl) → Res W
  | .ok r m => match r.1.val with
    | .d x => .ok (.d x) (m.take b)
    | .c n => if n < b then .ok (.c n) (m.take b) else if keep then .ok (.c n) m else match frz b 4 m (.c n) with
      | some x => .ok (.d x) (m.take b)
      | none => .no
  | .exc e m => .exc e (m.take b)
  | .no => .no
noncomputable def calln (J : Info) : Nat → Str → List W → K W
  | 0, _, _ => K.stop
  | k + 1, f, ws => fun m => match J.fns f with
    | some d => if ws.length = d.np then
        leave m.length d.keep (exs ⟨⟨m.length, J.glob, calln J k⟩, J.att, J.sub⟩ d.body (ws.map some ++ List.replicate d.ns none) m) else .no
    | none => .no
end Cs
set_option Elab.async false
set_option linter.all false
set_option autoImplicit false
set_option maxRecDepth 100000
/-! How the interpreter's values and memory stand in the model's heap. -/
namespace Cs
open PySem L2

/-! ### keys -/
mutual
def nk : PyData → NestedKey
  | .int i => .num i
  | .str x => .text x
  | .tuple xs => .tup (nks xs)
  | .none => .none
  | .bool _ => .none
  | .list _ => .none
  | .dict _ => .none
def nks : List PyData → List NestedKey
  | [] => []
  | x :: xs => nk x :: nks xs
end
theorem nks_map : ∀ xs : List PyData, nks xs = xs.map nk
  | [] => by simp [nks]
  | x :: xs => by simp [nks, nks_map xs]
theorem isKey_up : ∀ (n : Nat) (x : PyData), isKey n x = true → isKey (n + 1) x = true := by
  intro n
  induction n with
  | zero => intro x h; cases x <;> simp_all [isKey]
  | succ n ih =>
    intro x h
    cases x with
    | tuple xs =>
      simp only [isKey, List.all_eq_true] at h ⊢
      exact fun y hy => ih y (h y hy)
    | _ => simp_all [isKey]
theorem nk_inj : ∀ (n : Nat) (x y : PyData), isKey n x = true → isKey n y = true → nk x = nk y → x = y := by
  intro n
  induction n with
  | zero => intro x y hx hy h; cases x <;> cases y <;> simp_all [isKey, nk]
  | succ n ih =>
    intro x y hx hy h
    have all : ∀ (xs ys : List PyData), (∀ z ∈ xs, isKey n z = true) → (∀ z ∈ ys, isKey n z = true) → nks xs = nks ys → xs = ys := by
      intro xs
      induction xs with
      | nil => intro ys _ _ e; cases ys <;> simp_all [nks]
      | cons x xs ih2 =>
        intro ys h1 h2 e
        cases ys with
        | nil => simp [nks] at e
        | cons y ys =>
          simp only [nks, List.cons.injEq] at e
          rw [ih x y (h1 x (by simp)) (h2 y (by simp)) e.1, ih2 ys (fun z hz => h1 z (by simp [hz])) (fun z hz => h2 z (by simp [hz])) e.2]
    cases x with
    | tuple xs =>
      cases y with
      | tuple ys =>
        simp only [isKey, List.all_eq_true] at hx hy
        simp only [nk, NestedKey.tup.injEq] at h
        rw [all xs ys hx hy h]
      | _ => simp_all [isKey, nk]
    | _ => cases y <;> simp_all [isKey, nk]
/-- Python's == of keys is sameness -/
theorem eqv_key : ∀ (n : Nat) (x y : PyData), isKey n x = true → isKey n y = true → (PyData.eqv x y = true ↔ x = y) := by
  intro n
  induction n with
  | zero => intro x y hx hy; cases x <;> cases y <;> simp_all [isKey, PyData.eqv]
  | succ n ih =>
    intro x y hx hy
    have all : ∀ (xs ys : List PyData), (∀ z ∈ xs, isKey n z = true) → (∀ z ∈ ys, isKey n z = true) → (PyData.eqvAll xs ys = true ↔ xs = ys) := by
      intro xs
      induction xs with
      | nil => intro ys _ _; cases ys <;> simp [PyData.eqvAll]
      | cons x xs ih2 =>
        intro ys h1 h2
        cases ys with
        | nil => simp [PyData.eqvAll]
        | cons y ys =>
          simp only [PyData.eqvAll, Bool.and_eq_true, List.cons.injEq]
          rw [ih x y (h1 x (by simp)) (h2 y (by simp)), ih2 ys (fun z hz => h1 z (by simp [hz])) (fun z hz => h2 z (by simp [hz]))]
    cases x <;> cases y <;> simp_all [isKey, PyData.eqv]
theorem eqv_refl_key (n : Nat) (x : PyData) (h : isKey n x = true) : PyData.eqv x x = true := (eqv_key n x x h h).2 rfl

/-- the keys of a dict: keys, and all apart -/
structure KeysOk {β : Type} (kvs : List (PyData × β)) : Prop where
  key : ∀ p ∈ kvs, isKey 8 p.1 = true
  nd : (kvs.map fun p => nk p.1).Nodup
  len : kvs.length ≤ top

/-! ### data in the heap -/
/-- a dict with these entries stands at a -/
def dO (a : Addr) (es : List DictEntry) (ep : Nat) : HO := .ext fun h => h.DictRaw a es.toArray ep
def LsAt (H : Hp) (C : Addr → Prop) (a : Addr) (xs : List V) : Prop := Rd H a (.lst xs) ∧ ¬ C a
def TpAt (K : PySem.W.Frag) (H : Hp) (C : Addr → Prop) (a : Addr) (xs : List V) : Prop :=
  (Rd H a (.tup xs) ∧ ¬ C a) ∨ ∃ (o : Obj) (its : Array Value) (n : Nat), K.lookup a = some o ∧ o.cls = .type "tuple" ∧ o.data = .seq its n ∧ its.size ≤ sizeLine ∧ Vals xs its.toList
def DcAt (K : PySem.W.Frag) (H : Hp) (C : Addr → Prop) (a : Addr) (es : List DictEntry) : Prop :=
  (a == sysModules) = false ∧ ((∃ ep, H a = some (dO a es ep) ∧ ¬ C a) ∨ ∃ (o : Obj) (ep : Nat), K.lookup a = some o ∧ o.ExactDict ∧ o.data = .dict es.toArray ep)
section
variable (K : PySem.W.Frag) (w : World) (H : Hp) (C : Addr → Prop)
mutual
/-- the value v is the datum -/
inductive DR : V → PyData → Prop
  | non : DR .non .none
  | bl (b : Bool) : DR (.bl b) (.bool b)
  | int (i : Int) : DR (.int i) (.int i)
  | str (x : Str) : DR (.str x) (.str x)
  | lst {a : Addr} {xs : List V} {ds : List PyData} : LsAt H C a xs → DRs xs ds → DR (.ref a) (.list ds)
  | tup {a : Addr} {xs : List V} {ds : List PyData} : TpAt K H C a xs → DRs xs ds → DR (.ref a) (.tuple ds)
  | dic {a : Addr} {es : List DictEntry} {kvs : List (PyData × PyData)} : DcAt K H C a es → DRk es kvs → KeysOk kvs → DR (.ref a) (.dict kvs)
inductive DRs : List V → List PyData → Prop
  | nil : DRs [] []
  | cons {v : V} {vs : List V} {d : PyData} {ds : List PyData} : DR v d → DRs vs ds → DRs (v :: vs) (d :: ds)
inductive DRk : List DictEntry → List (PyData × PyData) → Prop
  | nil : DRk [] []
  | cons {e : DictEntry} {es : List DictEntry} {kd vd : PyData} {kv vv : V} {kvs : List (PyData × PyData)} : e.hash = (nk kd).hash w → RelV kv e.key → RelV vv e.val → DR kv kd → DR vv vd → DRk es kvs → DRk (e :: es) ((kd, vd) :: kvs)
end
end
section
variable {K : PySem.W.Frag} {w : World} {H H' : Hp} {C C' : Addr → Prop}
theorem LsAt.sq {a : Addr} {xs : List V} (h : LsAt H C a xs) : SqL K H a xs := .inl h.1
theorem TpAt.sq {a : Addr} {xs : List V} (h : TpAt K H C a xs) : SqT K H a xs := h.elim (fun z => .inl z.1) .inr
/-- no table of code objects -/
def noT (o : HO) : Prop := ∀ ps, o ≠ .tbl ps
/-- what stands and is no cell (and no table) stays -/
def Stay (H H' : Hp) (C C' : Addr → Prop) : Prop := ∀ a o, H a = some o → noT o → ¬ C a → H' a = some o ∧ ¬ C' a
theorem Stay.rd {a : Addr} {u : HO} (st : Stay H H' C C') (h : Rd H a u) (t : noT u) (n : ¬ C a) : Rd H' a u ∧ ¬ C' a := by
  rcases h with h | ⟨o, h⟩
  · exact ⟨.inl (st a _ h t n).1, (st a _ h t n).2⟩
  · exact ⟨.inr ⟨o, (st a _ h (fun ps z => by cases z) n).1⟩, (st a _ h (fun ps z => by cases z) n).2⟩
theorem LsAt.stay {a : Addr} {xs : List V} (st : Stay H H' C C') (h : LsAt H C a xs) : LsAt H' C' a xs := st.rd h.1 (fun ps z => by cases z) h.2
theorem TpAt.stay {a : Addr} {xs : List V} (st : Stay H H' C C') (h : TpAt K H C a xs) : TpAt K H' C' a xs := h.elim (fun z => .inl (st.rd z.1 (fun ps z => by cases z) z.2)) .inr
theorem noT_d (a : Addr) (es : List DictEntry) (ep : Nat) : noT (dO a es ep) := fun ps z => by
  unfold dO at z
  first | cases z | (split at z <;> cases z)
theorem DcAt.stay {a : Addr} {es : List DictEntry} (st : Stay H H' C C') (h : DcAt K H C a es) : DcAt K H' C' a es := ⟨h.1, h.2.elim (fun ⟨ep, z⟩ => .inl ⟨ep, st a _ z.1 (noT_d a es ep) z.2⟩) .inr⟩
mutual
theorem DR.stay (st : Stay H H' C C') : ∀ {v : V} {d : PyData}, DR K w H C v d → DR K w H' C' v d
  | _, _, .non => .non
  | _, _, .bl b => .bl b
  | _, _, .int i => .int i
  | _, _, .str x => .str x
  | _, _, .lst h r => .lst (h.stay st) (DRs.stay st r)
  | _, _, .tup h r => .tup (h.stay st) (DRs.stay st r)
  | _, _, .dic h r k => .dic (h.stay st) (DRk.stay st r) k
theorem DRs.stay (st : Stay H H' C C') : ∀ {vs : List V} {ds : List PyData}, DRs K w H C vs ds → DRs K w H' C' vs ds
  | _, _, .nil => .nil
  | _, _, .cons h r => .cons (DR.stay st h) (DRs.stay st r)
theorem DRk.stay (st : Stay H H' C C') : ∀ {es : List DictEntry} {kvs : List (PyData × PyData)}, DRk K w H C es kvs → DRk K w H' C' es kvs
  | _, _, .nil => .nil
  | _, _, .cons a b c d e r => .cons a b c (DR.stay st d) (DR.stay st e) (DRk.stay st r)
end
theorem DRs.length : ∀ {vs : List V} {ds : List PyData}, DRs K w H C vs ds → vs.length = ds.length
  | _, _, .nil => rfl
  | _, _, .cons _ r => by simp [DRs.length r]
theorem DRk.length : ∀ {es : List DictEntry} {kvs : List (PyData × PyData)}, DRk K w H C es kvs → es.length = kvs.length
  | _, _, .nil => rfl
  | _, _, .cons _ _ _ _ _ r => by simp [DRk.length r]
theorem DRs.get : ∀ {vs : List V} {ds : List PyData} {i : Nat} {d : PyData}, DRs K w H C vs ds → ds[i]? = some d → ∃ v, vs[i]? = some v ∧ DR K w H C v d
  | _, _, i, _, .nil, h => by simp at h
  | _, _, 0, _, .cons h _, e => by simp at e; subst e; exact ⟨_, rfl, h⟩
  | _, _, i + 1, _, .cons _ r, e => by
    obtain ⟨v, h1, h2⟩ := DRs.get (i := i) r (by simpa using e)
    exact ⟨v, by simpa using h1, h2⟩
theorem DRs.append : ∀ {vs us : List V} {ds es : List PyData}, DRs K w H C vs ds → DRs K w H C us es → DRs K w H C (vs ++ us) (ds ++ es)
  | _, _, _, _, .nil, s => s
  | _, _, _, _, .cons h r, s => .cons h (DRs.append r s)
theorem DRs.take : ∀ {vs : List V} {ds : List PyData} (n : Nat), DRs K w H C vs ds → DRs K w H C (vs.take n) (ds.take n)
  | _, _, 0, _ => by simpa using DRs.nil
  | _, _, _ + 1, .nil => .nil
  | _, _, n + 1, .cons h r => .cons h (DRs.take n r)
theorem DRs.drop : ∀ {vs : List V} {ds : List PyData} (n : Nat), DRs K w H C vs ds → DRs K w H C (vs.drop n) (ds.drop n)
  | _, _, 0, r => r
  | _, _, _ + 1, .nil => .nil
  | _, _, n + 1, .cons _ r => DRs.drop n r
theorem DRs.reverse : ∀ {vs : List V} {ds : List PyData}, DRs K w H C vs ds → DRs K w H C vs.reverse ds.reverse
  | _, _, .nil => .nil
  | _, _, .cons h r => by simpa using (DRs.reverse r).append (.cons h .nil)
end

/-! ### cells -/
/-- the cells' places; lists that are being made and that nothing names -/
structure Fm where
  at_ : Nat → Addr
  hid : Addr → Prop
  tn : Addr → Option Str
instance : CoeFun Fm (fun _ => Nat → Addr) := ⟨Fm.at_⟩
def isC (f : Fm) (M : Mem) (a : Addr) : Prop := (∃ n, n < M.length ∧ f n = a) ∨ f.hid a
/-- the table of the law's code objects -/
def tnK (K : PySem.W.Frag) : Addr → Option Str := fun P => if P = (He.cT K ("law", none)).2 then some (("law" ++ ".<locals>.") ++ "<lambda>") else none
/-- nothing stands there, or a table -/
def fre (H : Hp) (a : Addr) : Prop := ∀ o, H a = some o → ∃ ps, o = .tbl ps
theorem fre_none {H : Hp} {a : Addr} (h : H a = none) : fre H a := fun o e => by rw [h] at e; cases e
theorem fre.not {H : Hp} {a : Addr} {o : HO} (h : fre H a) (e : H a = some o) (t : ∀ ps, o ≠ .tbl ps) : False := by
  obtain ⟨ps, z⟩ := h o e
  exact t ps z
/-- P is a table whose code objects all bear the name q; none of them is a cell -/
def TabK (f : Fm) (M : Mem) (H : Hp) (P : Addr) (q : Str) : Prop := ∃ ps : Array Value, H P = some (.tbl ps) ∧ PySem.TriplesOk ps.toList ∧ ∀ (pos : Pos) (cv : Value), PySem.codeAmong pos ps.toList = some cv → ∃ c, cv = .ref c ∧ H c = some (LamX.CodeO c q) ∧ ¬ isC f M c
theorem TabK.stay {f f' : Fm} {M M' : Mem} {H H' : Hp} {P : Addr} {q : Str} (t : TabK f M H P q) (st : Stay H H' (isC f M) (isC f' M')) (hP : ∀ ps, H P = some (.tbl ps) → H' P = some (.tbl ps)) : TabK f' M' H' P q := by
  obtain ⟨ps, e1, e2, e3⟩ := t
  refine ⟨ps, hP ps e1, e2, fun pos cv hc => ?_⟩
  obtain ⟨c, z1, z2, z3⟩ := e3 pos cv hc
  obtain ⟨s1, s2⟩ := st c _ z2 (fun ps z => by unfold LamX.CodeO at z; cases z) z3
  exact ⟨c, z1, s1, s2⟩
theorem TabK.fresh {f f' : Fm} {M M' : Mem} {H : Hp} {P p : Addr} {o : HO} {q : Str} (t : TabK f M H P q) (hp : H p = none) (st : Stay H (upd H p o) (isC f M) (isC f' M')) : TabK f' M' (upd H p o) P q :=
  t.stay st fun ps e => by rw [upd_ne (ne_of_none e hp)]; exact e
theorem TabK.at_ {f f' : Fm} {M M' : Mem} {H : Hp} {P p : Addr} {o u : HO} {q : Str} (t : TabK f M H P q) (hp : H p = some u) (hu : noT u) (st : Stay H (upd H p o) (isC f M) (isC f' M')) : TabK f' M' (upd H p o) P q :=
  t.stay st fun ps e => by
    rw [upd_ne (fun z => ?_)]
    · exact e
    · rw [z, hp] at e
      exact hu ps (Option.some.inj e)
section
variable (K : PySem.W.Frag) (w : World) (f : Fm) (M : Mem) (H : Hp)
def RW (v : V) : W → Prop
  | .d x => DR K w H (isC f M) v x
  | .c n => n < M.length ∧ v = .ref (f n)
def RWs : List V → List W → Prop
  | [], [] => True
  | v :: vs, x :: xs => RW K w f M H v x ∧ RWs vs xs
  | _, _ => False
def RWk : List DictEntry → List (PyData × W) → Prop
  | [], [] => True
  | e :: es, (kd, x) :: kvs => (∃ kv vv, e.hash = (nk kd).hash w ∧ RelV kv e.key ∧ RelV vv e.val ∧ DR K w H (isC f M) kv kd ∧ RW K w f M H vv x) ∧ RWk es kvs
  | _, _ => False
/-- fields: the same names, in the same order -/
def FRel (C : Addr → Prop) : List (Str × V) → List (Str × PyData) → Prop
  | [], [] => True
  | (n, v) :: r, (m, x) :: s => (n = m ∧ DR K w H C v x) ∧ FRel C r s
  | _, _ => False
/-- at a: an error of the class at C, its arguments at t (if one knows where), its dict -/
def xcO (a C : Addr) (t d : Option Addr) : HO := .ext fun h => ∃ (o : Obj) (vs : Array Value), h.get? a = some o ∧ o.cls = .ref C ∧ o.dict = d ∧ o.data = .fields vs ∧ ∀ b, t = some b → vs[0]? = some (.ref b)
/-- an object of a class of one's own -/
def ObOk (C : Addr → Prop) (a : Addr) (o : ObD) : Prop :=
  (o.err = false ∧ o.fs.length ≤ 900 ∧ ∃ dx vs, H a = some (.ins (He.ga K o.cls) dx vs) ∧ H dx = some (.own a) ∧ ¬ C dx ∧ FRel K w H C vs o.fs) ∨
  (o.err = true ∧ ∃ t d, H a = some (xcO a (He.ga K o.cls) t d) ∧ (∀ m, o.txt = some m → ∃ b, t = some b ∧ H b = some (.tup [.str m]) ∧ ¬ C b) ∧
    ((d = none ∧ o.fs = []) ∨ ∃ dx vs, d = some dx ∧ H dx = some (.xd vs) ∧ ¬ C dx ∧ FRel K w H C vs o.fs))
def CellOk (a : Addr) : Cell → Prop
  | .obj o => ObOk K w H (isC f M) a o
  | .lst ws => ∃ vs, H a = some (.lst vs) ∧ RWs K w f M H vs ws ∧ ws.length ≤ top
  | .dic kvs => (a == sysModules) = false ∧ ∃ es ep, H a = some (dO a es ep) ∧ RWk K w f M H es kvs ∧ KeysOk kvs
/-- what a hidden place may hold -/
def isHid : HO → Prop
  | .lst _ => True
  | .dK _ => True
  | _ => False
structure MemOk : Prop where
  cell : ∀ n c, M[n]? = some c → CellOk K w f M H (f n) c
  inj : ∀ i j, i < M.length → j < M.length → f i = f j → i = j
  vis : ∀ n, n < M.length → ¬ f.hid (f n)
  hidL : ∀ a, f.hid a → ∃ o, H a = some o ∧ isHid o
  tab : ∀ P q, f.tn P = some q → TabK f M H P q
  own : f.tn = tnK K
end
def W.refs : W → List Nat
  | .d _ => []
  | .c n => [n]
def Cell.refs : Cell → List Nat
  | .lst ws => ws.flatMap W.refs
  | .dic kvs => kvs.flatMap fun p => p.2.refs
  | .obj _ => []
def Closed (b : Nat) (M : Mem) : Prop := ∀ n c, n < b → M[n]? = some c → ∀ m ∈ c.refs, m < b
/-- what may have changed -/
structure Ext (b : Nat) (f : Fm) (M : Mem) (H : Hp) (f' : Fm) (M' : Mem) (H' : Hp) : Prop where
  len : M.length ≤ M'.length
  same : ∀ n, n < M.length → f' n = f n
  keepV : ∀ a o, H a = some o → noT o → (∀ n, n < M.length → f n ≠ a) → H' a = some o
  new : ∀ n, M.length ≤ n → n < M'.length → fre H (f' n)
  pres : ∀ c, c ≤ b → Closed c M → Closed c M'
  hidU : ∀ a, f.hid a → f'.hid a
  hidN : ∀ a, f'.hid a → f.hid a ∨ fre H a
  sameT : f'.tn = f.tn
section
variable {K : PySem.W.Frag} {w : World} {f f' f₂ : Fm} {M M' M₂ : Mem} {H H' H₂ : Hp} {b : Nat}
theorem noT_ext (φ : Heap → Prop) : noT (.ext φ) := fun ps z => by cases z
theorem FRel.stay {C C' : Addr → Prop} (st : Stay H H' C C') : ∀ {vs : List (Str × V)} {fs : List (Str × PyData)}, FRel K w H C vs fs → FRel K w H' C' vs fs
  | [], [], _ => trivial
  | (_, _) :: _, (_, _) :: _, ⟨⟨e, h⟩, r⟩ => ⟨⟨e, h.stay st⟩, FRel.stay st r⟩
  | [], _ :: _, h => h.elim
  | _ :: _, [], h => h.elim
theorem ObOk.stay {C C' : Addr → Prop} {a : Addr} {o : ObD} (st : Stay H H' C C') (h : H' a = H a) (q : ObOk K w H C a o) : ObOk K w H' C' a o := by
  rcases q with ⟨e, l, dx, vs, h1, h2, h3, h4⟩ | ⟨e, t, d, h1, h2, h3⟩
  · obtain ⟨z1, z2⟩ := st dx _ h2 (fun ps z => by cases z) h3
    exact .inl ⟨e, l, dx, vs, by rw [h]; exact h1, z1, z2, h4.stay st⟩
  · refine .inr ⟨e, t, d, by rw [h]; exact h1, fun m hm => ?_, ?_⟩
    · obtain ⟨b, g0, g1, g2⟩ := h2 m hm
      exact ⟨b, g0, st b _ g1 (fun ps z => by cases z) g2⟩
    · rcases h3 with h3 | ⟨dx, vs, g1, g2, g3, g4⟩
      · exact .inl h3
      · obtain ⟨z1, z2⟩ := st dx _ g2 (fun ps z => by cases z) g3
        exact .inr ⟨dx, vs, g1, z1, z2, g4.stay st⟩
theorem ObOk.kind {C : Addr → Prop} {a : Addr} {o : ObD} (q : ObOk K w H C a o) : ∃ u, H a = some u ∧ ((∃ c dx vs, u = .ins c dx vs) ∨ ∃ φ, u = .ext φ) := by
  rcases q with ⟨e, _, dx, vs, h1, _⟩ | ⟨e, t, d, h1, _⟩
  · exact ⟨_, h1, .inl ⟨_, _, _, rfl⟩⟩
  · exact ⟨_, h1, .inr ⟨_, rfl⟩⟩
theorem MemOk.tracked (m : MemOk K w f M H) {n : Nat} (h : n < M.length) : ∃ o, H (f n) = some o := by
  have hc : M[n]? = some M[n] := List.getElem?_eq_getElem h
  have := m.cell n _ hc
  cases hM : M[n] with
  | lst ws => rw [hM] at this; obtain ⟨vs, e, _⟩ := this; exact ⟨_, e⟩
  | dic kvs => rw [hM] at this; obtain ⟨_, es, ep, e, _⟩ := this; exact ⟨_, e⟩
  | obj o => rw [hM] at this; obtain ⟨u, e, _⟩ := ObOk.kind this; exact ⟨_, e⟩
theorem MemOk.kind (m : MemOk K w f M H) {n : Nat} (h : n < M.length) : ∃ o, H (f n) = some o ∧ noT o := by
  have hc : M[n]? = some M[n] := List.getElem?_eq_getElem h
  have := m.cell n _ hc
  cases hM : M[n] with
  | lst ws => rw [hM] at this; obtain ⟨vs, e, _⟩ := this; exact ⟨_, e, fun ps z => by cases z⟩
  | dic kvs => rw [hM] at this; obtain ⟨_, es, ep, e, _⟩ := this; exact ⟨_, e, noT_d _ _ _⟩
  | obj o =>
    rw [hM] at this
    obtain ⟨u, e, z⟩ := ObOk.kind this
    refine ⟨_, e, fun ps q => ?_⟩
    rcases z with ⟨_, _, _, rfl⟩ | ⟨_, rfl⟩ <;> cases q
theorem isHid_noT {o : HO} (h : isHid o) : noT o := fun ps z => by subst z; exact h
theorem Ext.keep (x : Ext b f M H f' M' H') : ∀ a o, H a = some o → noT o → ¬ isC f M a → H' a = some o := fun a o e t n => x.keepV a o e t fun k hk z => n (.inl ⟨k, hk, z⟩)
theorem Ext.fr (m : MemOk K w f' M' H') (x : Ext b f M H f' M' H') {a : Addr} (h : fre H' a) : fre H a := fun o e => by
  by_cases hc : isC f M a
  · rcases hc with ⟨k, hk, ek⟩ | hh
    · obtain ⟨o', e', t⟩ := m.kind (Nat.lt_of_lt_of_le hk x.len)
      rw [x.same k hk, ek] at e'
      exact (h.not e' t).elim
    · obtain ⟨o', e', t⟩ := m.hidL _ (x.hidU _ hh)
      exact (h.not e' (isHid_noT t)).elim
  · by_cases t : noT o
    · exact (h.not (x.keep a o e t hc) t).elim
    · obtain ⟨ps, z⟩ := Classical.not_forall.mp t
      exact ⟨ps, Classical.not_not.mp z⟩
theorem Ext.refl : Ext b f M H f M H := ⟨Nat.le_refl _, fun _ _ => rfl, fun _ _ e _ _ => e, fun n h1 h2 => absurd h2 (by omega), fun _ _ h => h, fun _ h => h, fun _ h => .inl h, rfl⟩
theorem Ext.stay (x : Ext b f M H f' M' H') : Stay H H' (isC f M) (isC f' M') := fun a o e t n => ⟨x.keep a o e t n, fun hc => by
  rcases hc with ⟨k, hk, q⟩ | hh
  · by_cases h : k < M.length
    · exact n (.inl ⟨k, h, (x.same k h).symm.trans q⟩)
    · have := x.new k (by omega) hk
      rw [q] at this
      exact this.not e t
  · rcases x.hidN _ hh with q | q
    · exact n (.inr q)
    · exact q.not e t⟩
theorem Ext.trans (x : Ext b f M H f' M' H') (m : MemOk K w f' M' H') (y : Ext b f' M' H' f₂ M₂ H₂) : Ext b f M H f₂ M₂ H₂ where
  len := Nat.le_trans x.len y.len
  same := fun n h => (y.same n (Nat.lt_of_lt_of_le h x.len)).trans (x.same n h)
  keepV := fun a o e t n => y.keepV a o (x.keepV a o e t n) t fun k hk z => by
    by_cases h : k < M.length
    · exact n k h (by rw [← x.same k h]; exact z)
    · have := x.new k (by omega) hk
      rw [z] at this
      exact this.not e t
  new := fun n h1 h2 => by
    by_cases h : n < M'.length
    · rw [y.same n h]; exact x.new n h1 h
    · exact x.fr m (y.new n (by omega) h2)
  pres := fun c hc h => y.pres c hc (x.pres c hc h)
  hidU := fun a h => y.hidU a (x.hidU a h)
  hidN := fun a h => by
    rcases y.hidN a h with q | q
    · exact x.hidN a q
    · exact .inr (x.fr m q)
  sameT := y.sameT.trans x.sameT
theorem RW.ext (x : Ext b f M H f' M' H') {v : V} : ∀ {y : W}, RW K w f M H v y → RW K w f' M' H' v y
  | .d _, h => DR.stay x.stay h
  | .c n, ⟨h, e⟩ => ⟨Nat.lt_of_lt_of_le h x.len, by rw [x.same n h]; exact e⟩
theorem RWs.ext (x : Ext b f M H f' M' H') : ∀ {vs : List V} {ws : List W}, RWs K w f M H vs ws → RWs K w f' M' H' vs ws
  | [], [], _ => trivial
  | _ :: _, _ :: _, ⟨h, r⟩ => ⟨h.ext x, RWs.ext x r⟩
  | [], _ :: _, h => h.elim
  | _ :: _, [], h => h.elim
theorem RWk.ext (x : Ext b f M H f' M' H') : ∀ {es : List DictEntry} {ws : List (PyData × W)}, RWk K w f M H es ws → RWk K w f' M' H' es ws
  | [], [], _ => trivial
  | _ :: _, (_, _) :: _, ⟨⟨kv, vv, a, b, c, d, e⟩, r⟩ => ⟨⟨kv, vv, a, b, c, d.stay x.stay, e.ext x⟩, RWk.ext x r⟩
  | [], _ :: _, h => h.elim
  | _ :: _, [], h => h.elim
theorem RWs.length : ∀ {vs : List V} {ws : List W}, RWs K w f M H vs ws → vs.length = ws.length
  | [], [], _ => rfl
  | _ :: _, _ :: _, ⟨_, r⟩ => by simp [RWs.length r]
  | [], _ :: _, h => h.elim
  | _ :: _, [], h => h.elim
theorem RWk.length : ∀ {es : List DictEntry} {ws : List (PyData × W)}, RWk K w f M H es ws → es.length = ws.length
  | [], [], _ => rfl
  | _ :: _, (_, _) :: _, ⟨_, r⟩ => by simp [RWk.length r]
  | [], _ :: _, h => h.elim
  | _ :: _, [], h => h.elim
theorem RWs.get : ∀ {vs : List V} {ws : List W} {i : Nat} {x : W}, RWs K w f M H vs ws → ws[i]? = some x → ∃ v, vs[i]? = some v ∧ RW K w f M H v x
  | [], [], i, _, _, h => by simp at h
  | _ :: _, _ :: _, 0, _, ⟨h, _⟩, e => by simp at e; subst e; exact ⟨_, rfl, h⟩
  | _ :: _, _ :: _, i + 1, _, ⟨_, r⟩, e => by
    obtain ⟨v, h1, h2⟩ := RWs.get (i := i) r (by simpa using e)
    exact ⟨v, by simpa using h1, h2⟩
  | [], _ :: _, _, _, h, _ => h.elim
  | _ :: _, [], _, _, h, _ => h.elim
theorem RWs.append : ∀ {vs us : List V} {ws xs : List W}, RWs K w f M H vs ws → RWs K w f M H us xs → RWs K w f M H (vs ++ us) (ws ++ xs)
  | [], _, [], _, _, s => s
  | _ :: _, _, _ :: _, _, ⟨h, r⟩, s => ⟨h, RWs.append r s⟩
  | [], _, _ :: _, _, h, _ => h.elim
  | _ :: _, _, [], _, h, _ => h.elim
theorem RWs.set : ∀ {vs : List V} {ws : List W} {v : V} {x : W} (i : Nat), RWs K w f M H vs ws → RW K w f M H v x → RWs K w f M H (vs.set i v) (ws.set i x)
  | [], [], _, _, _, _, _ => trivial
  | _ :: _, _ :: _, _, _, 0, ⟨_, r⟩, h => ⟨h, r⟩
  | _ :: _, _ :: _, _, _, i + 1, ⟨g, r⟩, h => ⟨g, RWs.set i r h⟩
  | [], _ :: _, _, _, _, h, _ => h.elim
  | _ :: _, [], _, _, _, h, _ => h.elim
theorem RWs.dropLast : ∀ {vs : List V} {ws : List W}, RWs K w f M H vs ws → RWs K w f M H vs.dropLast ws.dropLast
  | [], [], _ => trivial
  | [_], [_], _ => trivial
  | _ :: _ :: _, _ :: _ :: _, ⟨h, r⟩ => ⟨h, RWs.dropLast r⟩
  | [], _ :: _, h => h.elim
  | _ :: _, [], h => h.elim
  | [_], _ :: _ :: _, ⟨_, h⟩ => h.elim
  | _ :: _ :: _, [_], ⟨_, h⟩ => h.elim
theorem RWs.data : ∀ {vs : List V} {ds : List PyData}, RWs K w f M H vs (ds.map W.d) ↔ DRs K w H (isC f M) vs ds
  | [], [] => ⟨fun _ => .nil, fun _ => trivial⟩
  | v :: vs, d :: ds => ⟨fun ⟨h, r⟩ => .cons h (RWs.data.1 r), fun h => by cases h with | cons h r => exact ⟨h, RWs.data.2 r⟩⟩
  | [], _ :: _ => ⟨fun h => h.elim, fun h => nomatch h⟩
  | _ :: _, [] => ⟨fun h => h.elim, fun h => nomatch h⟩
theorem RW.lt {v : V} {y : W} (h : RW K w f M H v y) : ∀ m ∈ y.refs, m < M.length := by
  cases y with
  | d x => intro m hm; simp [W.refs] at hm
  | c n => intro m hm; simp [W.refs] at hm; subst hm; exact h.1
theorem RWs.lt : ∀ {vs : List V} {ws : List W}, RWs K w f M H vs ws → ∀ m ∈ ws.flatMap W.refs, m < M.length
  | [], [], _, m, hm => by simp at hm
  | _ :: _, y :: ws, ⟨h, r⟩, m, hm => by
    rw [List.flatMap_cons, List.mem_append] at hm
    exact hm.elim (h.lt m) (RWs.lt r m)
  | [], _ :: _, h, _, _ => h.elim
  | _ :: _, [], h, _, _ => h.elim
theorem RWk.lt : ∀ {es : List DictEntry} {ws : List (PyData × W)}, RWk K w f M H es ws → ∀ m ∈ ws.flatMap (fun p => p.2.refs), m < M.length
  | [], [], _, m, hm => by simp at hm
  | _ :: _, (_, y) :: ws, ⟨⟨_, _, _, _, _, _, h⟩, r⟩, m, hm => by
    rw [List.flatMap_cons, List.mem_append] at hm
    exact hm.elim (h.lt m) (RWk.lt r m)
  | [], _ :: _, h, _, _ => h.elim
  | _ :: _, [], h, _, _ => h.elim
theorem MemOk.closed (m : MemOk K w f M H) : Closed M.length M := fun n c _ e k hk => by
  have := m.cell n c e
  cases c with
  | lst ws => obtain ⟨vs, _, r, _⟩ := this; exact r.lt k hk
  | dic kvs => obtain ⟨_, es, _, _, r, _⟩ := this; exact r.lt k hk
  | obj o => cases hk
end
end Cs
set_option Elab.async false
set_option linter.all false
set_option autoImplicit false
set_option maxRecDepth 100000
/-! Steps of the memory; what an expression's reading is. -/
namespace Cs
open PySem L2
section
variable {K : PySem.W.Frag} {w : World} {f f' : Fm} {M M' : Mem} {H H' : Hp} {b : Nat}
theorem Ext.weak {b' : Nat} (x : Ext b f M H f' M' H') (h : b' ≤ b) : Ext b' f M H f' M' H' := ⟨x.len, x.same, x.keepV, x.new, fun c hc => x.pres c (Nat.le_trans hc h), x.hidU, x.hidN, x.sameT⟩
theorem CellOk.ext (x : Ext b f M H f' M' H') {a a' : Addr} (e : a' = a) (h : H' a = H a) : ∀ {c : Cell}, CellOk K w f M H a c → CellOk K w f' M' H' a' c
  | .lst ws, ⟨vs, q, r, l⟩ => by subst e; exact ⟨vs, by rw [h]; exact q, r.ext x, l⟩
  | .dic kvs, ⟨n, es, ep, q, r, l⟩ => by subst e; exact ⟨n, es, ep, by rw [h]; exact q, r.ext x, l⟩
  | .obj o, q => by subst e; exact ObOk.stay x.stay h q
/-- a new object that is no cell -/
theorem MemOk.lay (m : MemOk K w f M H) {p : Addr} {o : HO} (hp : H p = none) : MemOk K w f M (upd H p o) ∧ Ext b f M H f M (upd H p o) := by
  have x : Ext b f M H f M (upd H p o) := ⟨Nat.le_refl _, fun _ _ => rfl, fun a u e _ _ => by rw [upd_ne (ne_of_none e hp)]; exact e, fun n h1 h2 => absurd h2 (by omega), fun _ _ h => h, fun _ h => h, fun _ h => .inl h, rfl⟩
  refine ⟨⟨fun n c e => ?_, m.inj, m.vis, fun a ha => ?_, fun P q h => (m.tab P q h).fresh hp x.stay, m.own⟩, x⟩
  rotate_left
  · obtain ⟨vs, e, hd⟩ := m.hidL a ha
    refine ⟨vs, ?_, hd⟩
    exact by rw [upd_ne (ne_of_none e hp)]; exact e
  have hn : n < M.length := (List.getElem?_eq_some_iff.mp e).1
  obtain ⟨u, q⟩ := m.tracked hn
  exact (m.cell n c e).ext x rfl (upd_ne (ne_of_none q hp))
theorem MemOk.notC (m : MemOk K w f M H) {p : Addr} (hp : H p = none) : ¬ isC f M p := fun hc => by
  rcases hc with ⟨n, hn, e⟩ | hh
  · obtain ⟨u, q⟩ := m.tracked hn
    rw [e, hp] at q; cases q
  · obtain ⟨vs, e, _⟩ := m.hidL _ hh
    rw [hp] at e; cases e
/-- a new cell -/
theorem MemOk.alloc (m : MemOk K w f M H) (hb : b ≤ M.length) {p : Addr} {o : HO} {c : Cell} (hp : H p = none)
    (hc : ∀ f' M' H', Ext b f M H f' M' H' → H' p = some o → CellOk K w f' M' H' p c) :
    ∃ f', f' M.length = p ∧ MemOk K w f' (M ++ [c]) (upd H p o) ∧ Ext b f M H f' (M ++ [c]) (upd H p o) := by
  have hM : (M ++ [c]).length = M.length + 1 := by simp
  have x : Ext b f M H ⟨fun n => if n = M.length then p else f n, f.hid, f.tn⟩ (M ++ [c]) (upd H p o) := by
    refine ⟨by omega, fun n hn => ?_, fun a u e _ _ => by rw [upd_ne (ne_of_none e hp)]; exact e, fun n h1 h2 => ?_, fun k hk h n c' hn e r hr => ?_, fun _ h => h, fun _ h => .inl h, rfl⟩
    · show (if n = M.length then p else f n) = f n
      rw [if_neg (by omega)]
    · show fre H (if n = M.length then p else f n)
      rw [if_pos (by omega)]; exact fre_none hp
    · by_cases h1 : n < M.length
      · rw [List.getElem?_append_left h1] at e
        exact h n c' hn e r hr
      · omega
  refine ⟨⟨fun n => if n = M.length then p else f n, f.hid, f.tn⟩, if_pos rfl, ⟨fun n c' e => ?_, fun i j hi hj e => ?_, fun n hn hh => ?_, fun a ha => ?_, fun P q h => (m.tab P q h).fresh hp x.stay, m.own⟩, x⟩
  rotate_left 2
  · have hh' : f.hid (if n = M.length then p else f n) := hh
    split at hh'
    · exact m.notC hp (.inr hh')
    · exact m.vis n (by omega) hh'
  · obtain ⟨vs, e, hd⟩ := m.hidL a ha
    refine ⟨vs, ?_, hd⟩
    exact by rw [upd_ne (ne_of_none e hp)]; exact e
  · have hn : n < M.length + 1 := by rw [← hM]; exact (List.getElem?_eq_some_iff.mp e).1
    by_cases h1 : n < M.length
    · rw [List.getElem?_append_left h1] at e
      obtain ⟨u, q⟩ := m.tracked h1
      have hne : n ≠ M.length := by omega
      refine (m.cell n c' e).ext x (by show (if n = M.length then p else f n) = f n; rw [if_neg hne]) (upd_ne (ne_of_none q hp))
    · have h2 : n = M.length := by omega
      subst h2
      rw [List.getElem?_append_right (Nat.le_refl _)] at e
      simp at e
      subst e
      show CellOk K w _ _ _ (if M.length = M.length then p else f M.length) c
      rw [if_pos rfl]
      exact hc _ _ _ x upd_same
  · have hne : ∀ n, n < M.length → f n ≠ p := fun n hn => by
      obtain ⟨u, q⟩ := m.tracked hn
      exact ne_of_none q hp
    have e' : (if i = M.length then p else f i) = (if j = M.length then p else f j) := e
    by_cases h1 : i = M.length
    · by_cases h2 : j = M.length
      · omega
      · rw [if_pos h1, if_neg h2] at e'
        exact absurd e'.symm (hne j (by omega))
    · by_cases h2 : j = M.length
      · rw [if_neg h1, if_pos h2] at e'
        exact absurd e' (hne i (by omega))
      · rw [if_neg h1, if_neg h2] at e'
        exact m.inj i j (by omega) (by omega) e'
/-- a cell is written -/
theorem MemOk.write (m : MemOk K w f M H) {n : Nat} {c : Cell} {o : HO} (hn : n < M.length) (hr : ∀ c₀, M[n]? = some c₀ → ∀ r ∈ c.refs, r ∈ c₀.refs ∨ b ≤ n)
    (hc : ∀ M' H', Ext b f M H f M' H' → H' (f n) = some o → CellOk K w f M' H' (f n) c) :
    MemOk K w f (M.set n c) (upd H (f n) o) ∧ Ext b f M H f (M.set n c) (upd H (f n) o) := by
  have x : Ext b f M H f (M.set n c) (upd H (f n) o) := by
    refine ⟨by simp, fun _ _ => rfl, fun a u e _ hn' => ?_, fun k h1 h2 => absurd h2 (by simp; omega), fun k hk h i c' hi e r hr' => ?_, fun _ h => h, fun _ h => .inl h, rfl⟩
    · rw [upd_ne (fun z => hn' n hn z.symm)]; exact e
    · by_cases hin : i = n
      · subst hin
        rw [List.getElem?_set_self hn] at e
        cases e
        rcases hr _ (List.getElem?_eq_getElem hn) r hr' with q | q
        · exact h i _ hi (List.getElem?_eq_getElem hn) r q
        · omega
      · rw [List.getElem?_set_ne (Ne.symm hin)] at e
        exact h i c' hi e r hr'
  refine ⟨⟨fun i c' e => ?_, fun i j hi hj e => m.inj i j (by simpa using hi) (by simpa using hj) e, fun i hi => m.vis i (by simpa using hi), fun a ha => ?_, fun P q h => by
    obtain ⟨u, hu, t⟩ := m.kind hn
    exact (m.tab P q h).at_ hu t x.stay, m.own⟩, x⟩
  rotate_left
  · obtain ⟨vs, e, hd⟩ := m.hidL a ha
    refine ⟨vs, ?_, hd⟩
    exact by rw [upd_ne (fun z => m.vis n hn (by rw [← z]; exact ha))]; exact e
  have hi : i < M.length := by have := (List.getElem?_eq_some_iff.mp e).1; simpa using this
  by_cases hin : i = n
  · subst hin
    rw [List.getElem?_set_self hn] at e
    cases e
    exact hc _ _ x upd_same
  · rw [List.getElem?_set_ne (Ne.symm hin)] at e
    exact (m.cell i c' e).ext x rfl (upd_ne fun z => hin (m.inj i n hi hn z))
end

/-! ### what follows -/
/-- behind a computation: its value, where it stands; or its exception -/
def Then {α : Type} (K : PySem.W.Frag) (w : World) (b : Nat) (f : Fm) (M : Mem) (H : Hp) (r : Res α) (ok : α → (Fm) → Mem → Hp → Prop) (er : Exc → (Fm) → Mem → Hp → Prop) : Prop := match r with
  | .ok a M' => ∀ f' H', Ext b f M H f' M' H' → MemOk K w f' M' H' → ok a f' M' H'
  | .exc e M' => ∀ f' H', Ext b f M H f' M' H' → MemOk K w f' M' H' → er e f' M' H'
  | .no => False
section
variable {α β : Type} {G : PySem.W.Frag} {w : World} {b : Nat} {f : Fm} {M : Mem} {H : Hp} {r : Res α} {ok ok' : α → (Fm) → Mem → Hp → Prop} {er er' : Exc → (Fm) → Mem → Hp → Prop}
theorem Then.imp (h : Then G w b f M H r ok er) (h1 : ∀ a f' M' H', Ext b f M H f' M' H' → MemOk G w f' M' H' → ok a f' M' H' → ok' a f' M' H')
    (h2 : ∀ e f' M' H', Ext b f M H f' M' H' → MemOk G w f' M' H' → er e f' M' H' → er' e f' M' H') : Then G w b f M H r ok' er' := by
  cases r with
  | ok a M' => exact fun f' H' x m => h1 a f' M' H' x m (h f' H' x m)
  | exc e M' => exact fun f' H' x m => h2 e f' M' H' x m (h f' H' x m)
  | no => exact h
theorem Then.bnd {x : K α} {g : α → K β} {okb : β → (Fm) → Mem → Hp → Prop} (h : Then G w b f M H (K.bnd x g M) okb er) :
    Then G w b f M H (x M) (fun a f1 M1 H1 => Then G w b f1 M1 H1 (g a M1) okb er) er := by
  unfold K.bnd at h
  cases hx : x M with
  | no => rw [hx] at h; exact h
  | exc e M' => rw [hx] at h; exact h
  | ok a M1 =>
    rw [hx] at h
    simp only at h
    intro f1 H1 x1 m1
    cases hg : g a M1 with
    | no => rw [hg] at h; exact h
    | exc e M' => rw [hg] at h; exact fun f2 H2 x2 m2 => h f2 H2 (x1.trans m1 x2) m2
    | ok c M' => rw [hg] at h; exact fun f2 H2 x2 m2 => h f2 H2 (x1.trans m1 x2) m2
theorem Then.pur {a : α} (m : MemOk G w f M H) (h : Then G w b f M H (K.pur a M) ok er) : ok a f M H := h f H .refl m
end

/-! ### readings -/
/-- the exception is one of the class, its own dict at d -/
def ExcIn (mg : Str → Option Value) (K : PySem.W.Frag) (w : World) (e : Exc) (cls : Value) (d : Option Addr) (H : Hp) (C : Addr → Prop) : Prop :=
  ∃ ca, mg e.cls = some (.ref ca) ∧ cls = .ref ca ∧ (match e.att with
    | none => d = none
    | some (n, x) => ∃ da v, d = some da ∧ H da = some (.xd [(n, v)]) ∧ DR K w H C v x)
abbrev ExcIs (X : Cx) (e : Exc) (cls : Value) (d : Option Addr) (H : Hp) (C : Addr → Prop) : Prop := ExcIn X.mg X.K X.w e cls d H C
/-- the slots hold these values -/
def SlR (K : PySem.W.Frag) (w : World) (f : Fm) (M : Mem) (H : Hp) (σV : St) (σ : Sl) : Prop :=
  σV.length = σ.length ∧ ∀ (i : Nat) (x : W), σ[i]? = some (some x) → ∃ v, σV[i]? = some (some v) ∧ RW K w f M H v x
theorem SlR.ext {K : PySem.W.Frag} {w : World} {f f' : Fm} {M M' : Mem} {H H' : Hp} {b : Nat} {σV : St} {σ : Sl} (x : Ext b f M H f' M' H') (s : SlR K w f M H σV σ) : SlR K w f' M' H' σV σ :=
  ⟨s.1, fun i y e => let ⟨v, h1, h2⟩ := s.2 i y e; ⟨v, h1, h2.ext x⟩⟩
/-- the state -/
structure Stt (X : Cx) (b : Nat) (f : Fm) (σ : Sl) (M : Mem) (σV : St) (H : Hp) : Prop where
  mem : MemOk X.K X.w f M H
  base : b ≤ M.length
  sl : SlR X.K X.w f M H σV σ
theorem Stt.ext {X : Cx} {b : Nat} {f f' : Fm} {M M' : Mem} {H H' : Hp} {σV : St} {σ : Sl} (s : Stt X b f σ M σV H) (x : Ext b f M H f' M' H') (m : MemOk X.K X.w f' M' H') : Stt X b f' σ M' σV H' :=
  ⟨m, Nat.le_trans s.base x.len, s.sl.ext x⟩
/-- what is wanted of an exception -/
def erW (X : Cx) (W : WX) (σV : St) : Exc → (Fm) → Mem → Hp → Prop := fun e f' M' H' => ∀ cls d, ExcIs X e cls d H' (isC f' M') → W cls d σV H'
/-- a computation over the slots, as an expression's reading -/
def tR (X : Cx) (W : WX) (b : Nat) (run : Sl → K Cs.W) : TE := fun σV H Q => ∃ f σ M, Stt X b f σ M σV H ∧ Then X.K X.w b f M H (run σ M) (fun y f' M' H' => ∀ v, RW X.K X.w f' M' H' v y → Q v H') (erW X W σV)
def tRs (X : Cx) (W : WX) (b : Nat) (run : Sl → K (List Cs.W)) : TA := fun σV H Q => ∃ f σ M, Stt X b f σ M σV H ∧ Then X.K X.w b f M H (run σ M) (fun ys f' M' H' => ∀ vs, RWs X.K X.w f' M' H' vs ys → Q vs H') (erW X W σV)
/-- a two-place operation on values -/
def rOp (X : Cx) (W : WX) (b : Nat) (σV : St) (g : Cs.W → Cs.W → K Cs.W) : R2 := fun u v H Q => ∃ f M x y, MemOk X.K X.w f M H ∧ b ≤ M.length ∧ RW X.K X.w f M H u x ∧ RW X.K X.w f M H v y ∧
  Then X.K X.w b f M H (g x y M) (fun z f' M' H' => ∀ v, RW X.K X.w f' M' H' v z → Q v H') (erW X W σV)
section
variable {X : Cx} {W : WX} {b : Nat}
/-- one after the other -/
theorem tR.two {ra rb : Sl → K Cs.W} {g : Cs.W → Cs.W → K Cs.W} {σV : St} {H : Hp} {Q : VK} (h : tR X W b (fun σ => (ra σ).bnd fun x => (rb σ).bnd fun y => g x y) σV H Q) :
    tR X W b ra σV H fun u H1 => tR X W b rb σV H1 fun v H2 => rOp X W b σV g u v H2 Q := by
  obtain ⟨f, σ, M, s, h⟩ := h
  refine ⟨f, σ, M, s, h.bnd.imp (fun x f1 M1 H1 x1 m1 h1 u ru => ?_) fun _ _ _ _ _ _ z => z⟩
  refine ⟨f1, σ, M1, s.ext x1 m1, h1.bnd.imp (fun y f2 M2 H2 x2 m2 h2 v rv => ?_) fun _ _ _ _ _ _ z => z⟩
  exact ⟨f2, M2, x, y, m2, Nat.le_trans (s.ext x1 m1).base x2.len, ru.ext x2, rv, h2⟩
end
end Cs
set_option Elab.async false
set_option linter.all false
set_option autoImplicit false
set_option maxRecDepth 100000
/-! Equality and order of data, as the model decides them. -/
namespace Cs
open PySem L2 PyProof.Rows

/-! ### data are read -/
section
variable {X : Cx} {pins : List (Addr × Obj)} {σ : L2.St} {H : Hp} {s : Shared} {C : Addr → Prop}
theorem DcAt.raw {a : Addr} {es : List DictEntry} (I : Inv X pins σ H s) (h : DcAt X.K H C a es) : ∃ ep, s.heap.DictRaw a es.toArray ep := by
  rcases h.2 with ⟨ep, h, _⟩ | ⟨o, ep, hk, hx, hd⟩
  · obtain ⟨q, _⟩ := (show ObjOk X.prog X.w H s.heap a (dO a es ep) from I.hok _ _ h)
    exact ⟨ep, q⟩
  · exact ⟨ep, o, I.kIn _ o hk, hx, hd⟩
mutual
theorem DR.reads (I : Inv X pins σ H s) : ∀ {v : V} {d : PyData} {u : Value}, DR X.K X.w H C v d → RelV v u → ∃ as, Reads s.heap u d as
  | _, _, _, .non, r => by cases r; exact ⟨_, .none⟩
  | _, _, _, .bl b, r => by cases r; exact ⟨_, .bool b⟩
  | _, _, _, .int i, r => by obtain ⟨t, rfl⟩ := r; exact ⟨_, .int i t⟩
  | _, _, _, .str x, r => by obtain ⟨t, rfl⟩ := r; exact ⟨_, .str x t⟩
  | _, _, _, .lst h rs, r => by
    cases r
    obtain ⟨its, rv, ⟨o, n, ho, hc, hd, hdt⟩, _⟩ := I.list h.sq
    obtain ⟨as, q⟩ := DRs.reads I rs rv
    exact ⟨_, .list ho hc hdt (by simpa using q)⟩
  | _, _, _, .tup h rs, r => by
    cases r
    obtain ⟨its, rv, ⟨o, ho, hc, n, hdt⟩, _⟩ := I.tuple h.sq
    obtain ⟨as, q⟩ := DRs.reads I rs rv
    exact ⟨_, .tuple ho hc hdt (by simpa using q)⟩
  | _, _, _, .dic h rs _, r => by
    cases r
    obtain ⟨ep, o, ho, hx, hd⟩ := h.raw I
    obtain ⟨as, q⟩ := DRk.readsK I rs
    obtain ⟨bs, q2⟩ := DRk.readsV I rs
    exact ⟨_, .dict ho hx.1 hd (by simpa using q) (by simpa using q2)⟩
theorem DRs.reads (I : Inv X pins σ H s) : ∀ {vs : List V} {ds : List PyData} {us : List Value}, DRs X.K X.w H C vs ds → Vals vs us → ∃ as, ReadsAll s.heap us ds as
  | _, _, _, .nil, r => by cases r; exact ⟨_, .nil⟩
  | _, _, _, .cons h rs, r => by
    cases r with
    | cons r rr =>
      obtain ⟨as, q⟩ := DR.reads I h r
      obtain ⟨bs, q2⟩ := DRs.reads I rs rr
      exact ⟨_, .cons q q2⟩
theorem DRk.readsK (I : Inv X pins σ H s) : ∀ {es : List DictEntry} {kvs : List (PyData × PyData)}, DRk X.K X.w H C es kvs → ∃ as, ReadsAll s.heap (es.map (·.key)) (kvs.map (·.1)) as
  | _, _, .nil => ⟨_, .nil⟩
  | _, _, .cons _ rk _ hk _ rs => by
    obtain ⟨as, q⟩ := DR.reads I hk rk
    obtain ⟨bs, q2⟩ := DRk.readsK I rs
    exact ⟨_, .cons q q2⟩
theorem DRk.readsV (I : Inv X pins σ H s) : ∀ {es : List DictEntry} {kvs : List (PyData × PyData)}, DRk X.K X.w H C es kvs → ∃ as, ReadsAll s.heap (es.map (·.val)) (kvs.map (·.2)) as
  | _, _, .nil => ⟨_, .nil⟩
  | _, _, .cons _ _ rv _ hv rs => by
    obtain ⟨as, q⟩ := DR.reads I hv rv
    obtain ⟨bs, q2⟩ := DRk.readsV I rs
    exact ⟨_, .cons q q2⟩
end
end

/-! ### fine data -/
theorem fine_ok : ∀ (n : Nat) (x : PyData), fine n x = true → x.canLay0 = true ∧ x.depth ≤ n := by
  intro n
  induction n with
  | zero => intro x h; cases x <;> simp_all [fine, PyData.canLay0, PyData.depth]
  | succ n ih =>
    intro x h
    have all : ∀ xs : List PyData, (∀ y ∈ xs, fine n y = true) → PyData.canLayAll0 xs = true ∧ PyData.depthAll xs ≤ n := by
      intro xs
      induction xs with
      | nil => intro _; simp [PyData.canLayAll0, PyData.depthAll]
      | cons y ys ih2 =>
        intro hy
        obtain ⟨a, b⟩ := ih y (hy y (by simp))
        obtain ⟨c, d⟩ := ih2 fun z hz => hy z (by simp [hz])
        refine ⟨by simp [PyData.canLayAll0, a, c], ?_⟩
        simp only [PyData.depthAll]
        omega
    cases x with
    | list xs =>
      simp only [fine, List.all_eq_true] at h
      obtain ⟨a, b⟩ := all xs h
      refine ⟨by simpa [PyData.canLay0] using a, ?_⟩
      simp only [PyData.depth]
      omega
    | tuple xs =>
      simp only [fine, List.all_eq_true] at h
      obtain ⟨a, b⟩ := all xs h
      refine ⟨by simpa [PyData.canLay0] using a, ?_⟩
      simp only [PyData.depth]
      omega
    | dict kvs => simp [fine] at h
    | str x => simp_all [fine, PyData.canLay0, PyData.depth]
    | _ => simp_all [fine, PyData.canLay0, PyData.depth]
theorem fines_ok (n : Nat) : ∀ xs : List PyData, xs.all (fine n) = true → PyData.canLayAll0 xs = true ∧ PyData.depthAll xs ≤ n
  | [], _ => by simp [PyData.canLayAll0, PyData.depthAll]
  | y :: ys, h => by
    rw [List.all_cons, Bool.and_eq_true] at h
    obtain ⟨a, b⟩ := fine_ok n y h.1
    obtain ⟨c, d⟩ := fines_ok n ys h.2
    refine ⟨by simp [PyData.canLayAll0, a, c], ?_⟩
    simp only [PyData.depthAll]
    omega
end Cs
set_option Elab.async false
set_option linter.all false
set_option autoImplicit false
set_option maxRecDepth 100000
set_option maxHeartbeats 1000000
/-! Operations on values. -/
namespace Cs
open PySem L2 PyProof.Rows

/-! ### a value read -/
/-- v is the datum, its own object whatever it is -/
def DT (K : PySem.W.Frag) (w : World) (H : Hp) (C : Addr → Prop) (v : V) : PyData → Prop
  | .list ds => ∃ a vs, v = .ref a ∧ Rd H a (.lst vs) ∧ DRs K w H C vs ds
  | .tuple ds => ∃ a vs, v = .ref a ∧ SqT K H a vs ∧ DRs K w H C vs ds
  | .dict kvs => ∃ a es, v = .ref a ∧ DcAt K H (fun _ => False) a es ∧ DRk K w H C es kvs ∧ KeysOk kvs
  | .none => v = .non
  | .bool b => v = .bl b
  | .int i => v = .int i
  | .str x => v = .str x
section
variable {K : PySem.W.Frag} {w : World} {f : Fm} {M : Mem} {H : Hp} {C : Addr → Prop}
theorem DR.dt : ∀ {v : V} {d : PyData}, DR K w H C v d → DT K w H C v d
  | _, _, .non => rfl
  | _, _, .bl _ => rfl
  | _, _, .int _ => rfl
  | _, _, .str _ => rfl
  | _, _, .lst h r => ⟨_, _, rfl, h.1, r⟩
  | _, _, .tup h r => ⟨_, _, rfl, h.sq, r⟩
  | _, _, .dic h r k => ⟨_, _, rfl, ⟨h.1, h.2.imp (fun ⟨ep, z⟩ => ⟨ep, z.1, id⟩) id⟩, r, k⟩
theorem mapM_dat {b : Nat} : ∀ {ws : List W} {ds : List PyData}, ws.mapM (frz b 0 M) = some ds → ws = ds.map W.d
  | [], ds, h => by simp at h; subst h; rfl
  | y :: ws, ds, h => by
    rw [List.mapM_cons] at h
    cases y with
    | c n => simp [frz] at h
    | d x =>
      cases hm : ws.mapM (frz b 0 M) with
      | none => simp [frz, hm] at h
      | some es =>
        simp [frz, hm] at h
        subst h
        rw [mapM_dat hm]; rfl
theorem mapM_datK {b : Nat} : ∀ {kvs : List (PyData × W)} {ds : List (PyData × PyData)}, kvs.mapM (fun p => (frz b 0 M p.2).map fun x => (p.1, x)) = some ds → kvs = ds.map fun p => (p.1, W.d p.2)
  | [], ds, h => by simp at h; subst h; rfl
  | (k, y) :: ws, ds, h => by
    rw [List.mapM_cons] at h
    cases y with
    | c n => simp [frz] at h
    | d x =>
      cases hm : ws.mapM (fun p => (frz b 0 M p.2).map fun x => (p.1, x)) with
      | none => simp [frz, hm] at h
      | some es =>
        simp [frz, hm] at h
        subst h
        rw [mapM_datK hm]; rfl
theorem RWk.data : ∀ {es : List DictEntry} {kvs : List (PyData × PyData)}, RWk K w f M H es (kvs.map fun p => (p.1, W.d p.2)) → DRk K w H (isC f M) es kvs
  | [], [], _ => .nil
  | _ :: _, (_, _) :: _, ⟨⟨_, _, a, b, c, d, e⟩, r⟩ => .cons a b c d e (RWk.data r)
  | [], _ :: _, h => h.elim
  | _ :: _, [], h => h.elim
theorem RWk.of_data : ∀ {es : List DictEntry} {kvs : List (PyData × PyData)}, DRk K w H (isC f M) es kvs → RWk K w f M H es (kvs.map fun p => (p.1, W.d p.2))
  | _, _, .nil => trivial
  | _, _, .cons a b c d e r => ⟨⟨_, _, a, b, c, d, e⟩, RWk.of_data r⟩
theorem KeysOk.map {β γ : Type} {kvs : List (PyData × β)} (g : β → γ) : KeysOk (kvs.map fun p => (p.1, g p.2)) ↔ KeysOk kvs := by
  constructor
  · rintro ⟨a, b, c⟩
    refine ⟨fun p hp => a (p.1, g p.2) (List.mem_map.mpr ⟨p, hp, rfl⟩), by simpa [List.map_map, Function.comp_def] using b, by simpa using c⟩
  · rintro ⟨a, b, c⟩
    refine ⟨fun p hp => ?_, by simpa [List.map_map, Function.comp_def] using b, by simpa using c⟩
    obtain ⟨q, hq, rfl⟩ := List.mem_map.mp hp
    exact a q hq
/-- what a value reads as -/
theorem RW.dt (m : MemOk K w f M H) {v : V} {y : W} {d : PyData} (h : RW K w f M H v y) (e : frz 0 1 M y = some d) : DT K w H (isC f M) v d := by
  cases y with
  | d x =>
    simp only [frz, Option.some.injEq] at e
    subst e
    exact DR.dt h
  | c n =>
    obtain ⟨hn, rfl⟩ := h
    rw [frz, if_neg (Nat.not_lt_zero _)] at e
    have hc := m.cell n _ (List.getElem?_eq_getElem hn)
    rw [List.getElem?_eq_getElem hn] at e
    cases hM : M[n] with
    | lst ws =>
      rw [hM] at hc
      simp only [hM] at e
      obtain ⟨ds, e1, rfl⟩ := Option.map_eq_some_iff.mp e
      have := mapM_dat e1
      subst this
      obtain ⟨vs, q, r, _⟩ := hc
      exact ⟨_, vs, rfl, .inl q, RWs.data.1 r⟩
    | dic kvs =>
      rw [hM] at hc
      simp only [hM] at e
      obtain ⟨ds, e1, rfl⟩ := Option.map_eq_some_iff.mp e
      have := mapM_datK e1
      subst this
      obtain ⟨ns, es, ep, q, r, k⟩ := hc
      exact ⟨_, es, rfl, ⟨ns, .inl ⟨ep, q, id⟩⟩, RWk.data r, (KeysOk.map W.d).1 k⟩
    | obj o => rw [hM] at e; cases e
end
section
variable {X : Cx} {pins : List (Addr × Obj)} {σ : L2.St} {H : Hp} {s : Shared} {C : Addr → Prop}
theorem DT.reads (I : Inv X pins σ H s) {v : V} {d : PyData} {u : Value} (h : DT X.K X.w H C v d) (r : RelV v u) : ∃ as, Reads s.heap u d as := by
  cases d with
  | list ds =>
    obtain ⟨a, vs, rfl, hs, rs⟩ := h
    cases r
    obtain ⟨its, rv, ⟨o, n, ho, hc, hd, hdt⟩, _⟩ := I.list (.inl hs)
    obtain ⟨as, q⟩ := DRs.reads I rs rv
    exact ⟨_, .list ho hc hdt (by simpa using q)⟩
  | tuple ds =>
    obtain ⟨a, vs, rfl, hs, rs⟩ := h
    cases r
    obtain ⟨its, rv, ⟨o, ho, hc, n, hdt⟩, _⟩ := I.tuple hs
    obtain ⟨as, q⟩ := DRs.reads I rs rv
    exact ⟨_, .tuple ho hc hdt (by simpa using q)⟩
  | dict kvs =>
    obtain ⟨a, es, rfl, hs, rs, _⟩ := h
    cases r
    obtain ⟨ep, o, ho, hx, hd⟩ := hs.raw I
    obtain ⟨as, q⟩ := DRk.readsK I rs
    obtain ⟨bs, q2⟩ := DRk.readsV I rs
    exact ⟨_, .dict ho hx.1 hd (by simpa using q) (by simpa using q2)⟩
  | none => cases (show v = .non from h); cases r; exact ⟨_, .none⟩
  | bool b => cases (show v = .bl b from h); cases r; exact ⟨_, .bool b⟩
  | int i => cases (show v = .int i from h); obtain ⟨t, rfl⟩ := r; exact ⟨_, .int i t⟩
  | str x => cases (show v = .str x from h); obtain ⟨t, rfl⟩ := r; exact ⟨_, .str x t⟩
end

/-! ### two-place operations on data -/
theorem MemOk.rdNotC {K : PySem.W.Frag} {w : World} {f : Fm} {M : Mem} {H : Hp} {a : Addr} {xs : List V} (m : MemOk K w f M H) (h : Rd H a (.tup xs)) : ¬ isC f M a := fun hC => by
  rcases hC with ⟨n, hn, e⟩ | hh
  rotate_left
  · obtain ⟨vs, q, hd⟩ := m.hidL _ hh
    rcases h with h | ⟨o, h⟩ <;> (rw [q] at h; cases h; exact hd)
  have hc := m.cell n _ (List.getElem?_eq_getElem hn)
  rw [e] at hc
  cases hM : M[n] with
  | lst ws =>
    rw [hM] at hc
    obtain ⟨vs, q, _⟩ := hc
    rcases h with h | ⟨o, h⟩ <;> (rw [q] at h; cases h)
  | dic kvs =>
    rw [hM] at hc
    obtain ⟨_, es, _, q, _⟩ := hc
    rcases h with h | ⟨o, h⟩ <;> (rw [q] at h; cases h)
  | obj ob =>
    rw [hM] at hc
    obtain ⟨u, q, z⟩ := ObOk.kind hc
    rcases z with ⟨_, _, _, rfl⟩ | ⟨_, rfl⟩ <;> (rcases h with h | ⟨o, h⟩ <;> (rw [q] at h; cases h))
theorem MemOk.tpAt {K : PySem.W.Frag} {w : World} {f : Fm} {M : Mem} {H : Hp} {a : Addr} {xs : List V} (m : MemOk K w f M H) (h : SqT K H a xs) : TpAt K H (isC f M) a xs :=
  h.elim (fun z => .inl ⟨z, m.rdNotC z⟩) .inr
/-- what is wanted of a datum that comes out -/
def outD (X : Cx) (b : Nat) (f : Fm) (M : Mem) (H : Hp) (Q : VK) (d : PyData) : Prop := ∀ f' H' v, Ext b f M H f' M H' → MemOk X.K X.w f' M H' → DR X.K X.w H' (isC f' M) v d → Q v H'
section
variable {X : Cx} {b : Nat} {f : Fm} {M : Mem} {H : Hp} {Q : VK}
theorem outD.at {d : PyData} {v : V} (o : outD X b f M H Q d) (m : MemOk X.K X.w f M H) (r : DR X.K X.w H (isC f M) v d) : Q v H := o f H v .refl m r
theorem outD.lst {vs : List V} {ds : List PyData} {p : Addr} (o : outD X b f M H Q (.list ds)) (m : MemOk X.K X.w f M H) (r : DRs X.K X.w H (isC f M) vs ds) (hp : H p = none) : Q (.ref p) (upd H p (.lst vs)) := by
  obtain ⟨m', x⟩ := m.lay (b := b) (o := .lst vs) hp
  exact o f _ _ x m' (.lst ⟨.inl upd_same, m.notC hp⟩ (r.stay x.stay))
theorem outD.tup {vs : List V} {ds : List PyData} {p : Addr} (o : outD X b f M H Q (.tuple ds)) (m : MemOk X.K X.w f M H) (r : DRs X.K X.w H (isC f M) vs ds) (hp : H p = none) : Q (.ref p) (upd H p (.tup vs)) := by
  obtain ⟨m', x⟩ := m.lay (b := b) (o := .tup vs) hp
  exact o f _ _ x m' (.tup (.inl ⟨.inl upd_same, m.notC hp⟩) (r.stay x.stay))
end
/-- an operation on two data -/
def dOp (X : Cx) (b : Nat) (g : PyData → PyData → Option PyData) : R2 := fun u v H Q => ∃ f M x y d, MemOk X.K X.w f M H ∧ b ≤ M.length ∧ DT X.K X.w H (isC f M) u x ∧ DT X.K X.w H (isC f M) v y ∧ g x y = some d ∧ outD X b f M H Q d
section
variable {X : Cx} {Z : WX} {b : Nat} {σV : L2.St}
theorem Then.rd {α : Type} {G : PySem.W.Frag} {w : World} {b : Nat} {f : Fm} {M : Mem} {H : Hp} {y : W} {g : PyData → K α} {ok : α → (Fm) → Mem → Hp → Prop} {er : Exc → (Fm) → Mem → Hp → Prop}
    (h : Then G w b f M H ((Cs.rd y).bnd g M) ok er) : ∃ d, frz 0 1 M y = some d ∧ Then G w b f M H (g d M) ok er := by
  unfold Cs.rd K.bnd at h
  cases e : frz 0 1 M y with
  | none => simp only [e] at h; exact h.elim
  | some d => simp only [e] at h; exact ⟨d, rfl, h⟩
theorem Then.opt {α β : Type} {G : PySem.W.Frag} {w : World} {b : Nat} {f : Fm} {M : Mem} {H : Hp} {y : Option β} {g : β → K α} {ok : α → (Fm) → Mem → Hp → Prop} {er : Exc → (Fm) → Mem → Hp → Prop}
    (h : Then G w b f M H ((K.opt y).bnd g M) ok er) : ∃ d, y = some d ∧ Then G w b f M H (g d M) ok er := by
  cases y with
  | none => exact h.elim
  | some d => exact ⟨d, rfl, h⟩
theorem Then.opt1 {β : Type} {G : PySem.W.Frag} {w : World} {b : Nat} {f : Fm} {M : Mem} {H : Hp} {y : Option β} {ok : β → (Fm) → Mem → Hp → Prop} {er : Exc → (Fm) → Mem → Hp → Prop}
    (h : Then G w b f M H (K.opt y M) ok er) : ∃ d, y = some d ∧ ∀ f' H', Ext b f M H f' M H' → MemOk G w f' M H' → ok d f' M H' := by
  cases y with
  | none => exact h.elim
  | some d => exact ⟨d, rfl, h⟩
/-- from the interpreter's operation -/
theorem dOp.of {g : PyData → PyData → Option PyData} {u v : V} {H : Hp} {Q : VK} (h : rOp X Z b σV (fun x y => (rd x).bnd fun x => (rd y).bnd fun y => K.opt ((g x y).map W.d)) u v H Q) : dOp X b g u v H Q := by
  obtain ⟨f, M, x, y, m, hb, rx, ry, h⟩ := h
  obtain ⟨dx, e1, h⟩ := h.rd
  obtain ⟨dy, e2, h⟩ := h.rd
  obtain ⟨z, e3, h⟩ := h.opt1
  obtain ⟨d, e4, rfl⟩ := Option.map_eq_some_iff.mp e3
  exact ⟨f, M, dx, dy, d, m, hb, rx.dt m e1, ry.dt m e2, e4, fun f' H' v' x' m' r' => h f' H' x' m' v' r'⟩
end
end Cs
set_option Elab.async false
set_option linter.all false
set_option autoImplicit false
set_option maxRecDepth 100000
set_option maxHeartbeats 1000000
/-! Operators. -/
namespace Cs
open PySem L2 PyProof.Rows
theorem top_eq : sizeLine = top := by decide
section
variable {X : Cx} {b : Nat}
theorem rd_lst {pins : List (Addr × Obj)} {s : Shared} {σ : L2.St} {H : Hp} {l : Addr} {xs : List V} (I : Inv X pins σ H s) (h : Rd H l (.lst xs)) :
    ∃ (its : List Value) (n : Nat), Vals xs its ∧ xs.length ≤ sizeLine ∧ s.heap.get? l = some { cls := .type "list", data := .seq its.toArray n } := by
  obtain ⟨z, its, n, r, e⟩ := h.ok I.hok
  exact ⟨its, n, r, z, e⟩
theorem vrep : ∀ (n : Nat) {xs : List V} {us : List Value}, Vals xs us → Vals (List.replicate n xs).flatten (List.replicate n us).flatten
  | 0, _, _, _ => .nil
  | n + 1, _, _, r => by
    rw [List.replicate_succ, List.replicate_succ, List.flatten_cons, List.flatten_cons]
    exact r.append (vrep n r)
theorem drep {w : World} {H : Hp} {C : Addr → Prop} {G : PySem.W.Frag} : ∀ (n : Nat) {xs : List V} {us : List PyData}, DRs G w H C xs us → DRs G w H C (List.replicate n xs).flatten (List.replicate n us).flatten
  | 0, _, _, _ => .nil
  | n + 1, _, _, r => by
    rw [List.replicate_succ, List.replicate_succ, List.flatten_cons, List.flatten_cons]
    exact r.append (drep n r)
theorem flat_len {α : Type} (n : Nat) (xs : List α) : (List.replicate n xs).flatten.length = n * xs.length := by simp
theorem o_add : OpR X (binaryOp .Add) (dOp X b (opD .add)) := by
  intro pins s σ H x y v u Q I rx ry ⟨f, M, dx, dy, d, m, hb, tx, ty, e, o⟩
  cases dx with
  | int i =>
    cases dy with
    | int j =>
      simp only [opD, Option.some.injEq] at e
      subst e
      cases (show x = .int i from tx)
      cases (show y = .int j from ty)
      exact op_add pins s σ H _ _ v u Q I rx ry ⟨i, j, rfl, rfl, o.at m (.int _)⟩
    | _ => simp [opD] at e
  | str i =>
    cases dy with
    | str j =>
      simp only [opD] at e
      split at e
      · rename_i hz
        simp only [Option.some.injEq] at e
        subst e
        cases (show x = .str i from tx)
        cases (show y = .str j from ty)
        exact op_add_str pins s σ H _ _ v u Q I rx ry ⟨i, j, rfl, rfl, by rw [top_eq]; exact hz, o.at m (.str _)⟩
      · simp at e
    | _ => simp [opD] at e
  | tuple i =>
    cases dy with
    | tuple j =>
      simp only [opD] at e
      split at e
      · rename_i hz
        simp only [Option.some.injEq] at e
        subst e
        obtain ⟨a, vs, rfl, ha, da⟩ := tx
        obtain ⟨c, ws, rfl, hc, dc⟩ := ty
        refine op_catA pins s σ H _ _ v u Q I rx ry ⟨a, c, vs, ws, rfl, rfl, ha, hc, by rw [top_eq, da.length, dc.length]; exact hz, fun h0 => ?_, fun h1 h0 => ?_, fun _ _ p hp => ?_⟩
        · subst h0
          cases da
          exact o.at m (.tup (m.tpAt hc) dc)
        · subst h0
          cases dc
          rw [List.append_nil] at o
          exact o.at m (.tup (m.tpAt ha) da)
        · exact o.tup m (da.append dc) hp
      · simp at e
    | _ => simp [opD] at e
  | list i =>
    cases dy with
    | list j =>
      simp only [opD] at e
      split at e
      · rename_i hz
        simp only [Option.some.injEq] at e
        subst e
        obtain ⟨a, vs, rfl, ha, da⟩ := tx
        obtain ⟨c, ws, rfl, hc, dc⟩ := ty
        cases rx
        cases ry
        obtain ⟨its, n, r, _, e1⟩ := rd_lst I ha
        obtain ⟨its2, n2, r2, _, e2⟩ := rd_lst I hc
        have hl : vs.length + ws.length ≤ sizeLine := by rw [top_eq, da.length, dc.length]; exact hz
        refine PySem.P.add_list e1 e2 ?_ (by rw [List.size_toArray, List.size_toArray, ← r.length, ← r2.length]; exact hl)
        have ea : its.toArray ++ its2.toArray = (its ++ its2).toArray := by simp
        rw [ea]
        exact ⟨.ref _, _, I.lnew (t' := s.toks) (r.append r2) (by rw [List.length_append]; exact hl), rfl, o.lst m (da.append dc) I.fresh⟩
      · simp at e
    | _ => simp [opD] at e
  | _ => simp [opD] at e
theorem o_sub : OpR X (binaryOp .Sub) (dOp X b (opD .sub)) := by
  intro pins s σ H x y v u Q I rx ry ⟨f, M, dx, dy, d, m, hb, tx, ty, e, o⟩
  cases dx with
  | int i =>
    cases dy with
    | int j =>
      simp only [opD, Option.some.injEq] at e
      subst e
      cases (show x = .int i from tx)
      cases (show y = .int j from ty)
      exact op_sub pins s σ H _ _ v u Q I rx ry ⟨i, j, rfl, rfl, o.at m (.int _)⟩
    | _ => simp [opD] at e
  | _ => simp [opD] at e
theorem o_mod : OpR X (binaryOp .Mod) (dOp X b (opD .mod)) := by
  intro pins s σ H x y v u Q I rx ry ⟨f, M, dx, dy, d, m, hb, tx, ty, e, o⟩
  cases dx with
  | int i =>
    cases dy with
    | int j =>
      simp only [opD] at e
      split at e
      · rename_i hz
        simp only [Option.some.injEq] at e
        subst e
        cases (show x = .int i from tx)
        cases (show y = .int j from ty)
        exact op_modN pins s σ H _ _ v u Q I rx ry ⟨i, j, rfl, rfl, hz, o.at m (.int _)⟩
      · simp at e
    | _ => simp [opD] at e
  | _ => simp [opD] at e
theorem o_fdiv : OpR X (binaryOp .FloorDiv) (dOp X b (opD .fdiv)) := by
  intro pins s σ H x y v u Q I rx ry ⟨f, M, dx, dy, d, m, hb, tx, ty, e, o⟩
  cases dx with
  | int i =>
    cases dy with
    | int j =>
      simp only [opD] at e
      split at e
      · rename_i hz
        simp only [Option.some.injEq] at e
        subst e
        cases (show x = .int i from tx)
        cases (show y = .int j from ty)
        exact op_fdivN pins s σ H _ _ v u Q I rx ry ⟨i, j, rfl, rfl, hz, o.at m (.int _)⟩
      · simp at e
    | _ => simp [opD] at e
  | _ => simp [opD] at e
theorem o_pow : OpR X (binaryOp .Pow) (dOp X b (opD .pow)) := by
  intro pins s σ H x y v u Q I rx ry ⟨f, M, dx, dy, d, m, hb, tx, ty, e, o⟩
  cases dx with
  | int i =>
    cases dy with
    | int j =>
      simp only [opD] at e
      split at e
      · rename_i hz
        simp only [Option.some.injEq] at e
        subst e
        cases (show x = .int i from tx)
        cases (show y = .int j from ty)
        exact op_pow pins s σ H _ _ v u Q I rx ry ⟨i, j, rfl, rfl, ⟨hz.1, by omega, hz.2.2⟩, o.at m (.int _)⟩
      · simp at e
    | _ => simp [opD] at e
  | _ => simp [opD] at e
/-- list * int, for a list that is only read, too -/
theorem rep_any {pins : List (Addr × Obj)} {s : Shared} {σ : L2.St} {H : Hp} {l : Addr} {k : Int} {t : Tok} {xs : List V} {Q : VK} (I : Inv X pins σ H s) (hx : Rd H l (.lst xs)) (k1 : 0 ≤ k) (k2 : k < 10000)
    (kz : xs.length * k.toNat ≤ sizeLine) (q : ∀ p, H p = none → Q (.ref p) (upd H p (.lst (List.replicate k.toNat xs).flatten))) :
    wpAny (model X.prog X.w) X.A (binaryOp .Mult (.ref l) (.int k t)) (EP X pins σ Q) X.xe s := by
  obtain ⟨its, n, r, _, e⟩ := rd_lst I hx
  have el := r.length
  have z1 : its.toArray.size * k.toNat ≤ sizeLine := by rw [List.size_toArray, ← el]; exact kz
  have z2 : (sizeLine : Nat) ≤ (2 ^ 63 - 1) / 8 := by decide
  have c1 : ¬ its.toArray.size * k.toNat > (2 ^ 63 - 1) / 8 := by omega
  have c2 : ¬ (!Builtin.List.listFitsIndex k) = true := by
    rw [fitsIndex_both (by omega) (by omega)]; decide
  have c3 : ¬ Builtin.List.listTooLong (its.toArray.size * k.toNat) = true := by
    rw [notLongL z1]; decide
  have fl : ∀ j : Nat, List.foldl (fun x1 x2 => x1 ++ x2) #[] (List.replicate j its.toArray) = (List.replicate j its).flatten.toArray := fun j => by
    simpa using foldl_rep its j []
  have en : List.foldl (fun x1 x2 => x1 ++ x2) #[] (List.replicate (if its.toArray.isEmpty = true then 0 else k.toNat) its.toArray) = (List.replicate k.toNat its).flatten.toArray := by
    rw [fl]
    cases its <;> simp
  have ty : s.TypeIs (.ref l) "list" := ⟨_, e, rfl⟩
  have m2 := call_meets F.slot_list_mul ty F.entry_list_mul (F.args_list_mul_2 _ _) (AutoListH.list___mul___list_int_3 l its.toArray n k t c2 c1 c3)
    (prog := X.prog) (w := X.w) (A := X.A.in1.in1) (E := X.xe) (s := s) (Q := EP X pins σ Q)
  refine wpAny_binaryOp_repeat_ref (T := "list") (U := "int") (by decide) ty (fun s' => typeIs_int s' k t) noFill_list_mul F.fills_int_mul F.slot_int_rmul repeat_list F.slot_int_index.lookup
    (call_meets F.slot_int_rmul (typeIs_int s k t) F.entry_int_rmul (F.args_int_rmul_2 _ _) (int___rmul___int_list k t l its.toArray n) ⟨e, rfl, ty, ?_⟩)
  refine call_meets F.slot_list_mul ty F.entry_list_mul (F.args_list_mul_2 _ _) (AutoListH.list___mul___list_int_3 l its.toArray n k t c2 c1 c3) ⟨e, ?_⟩
  rw [en]
  refine ⟨.ref _, _, I.lnew (t' := s.toks) (vrep k.toNat r) ?_, rfl, q _ I.fresh⟩
  rw [flat_len, Nat.mul_comm]; exact kz
theorem o_mul : OpR X (binaryOp .Mult) (dOp X b (opD .mul)) := by
  intro pins s σ H x y v u Q I rx ry ⟨f, M, dx, dy, d, m, hb, tx, ty, e, o⟩
  cases dx with
  | int i =>
    cases dy with
    | int j =>
      simp only [opD] at e
      split at e
      · rename_i hz
        simp only [Option.some.injEq] at e
        subst e
        cases (show x = .int i from tx)
        cases (show y = .int j from ty)
        refine op_mul pins s σ H _ _ v u Q I rx ry ⟨i, j, rfl, rfl, ?_, o.at m (.int _)⟩
        rcases hz with h | h
        · exact .inl h
        · exact .inr h
      · simp at e
    | _ => simp [opD] at e
  | tuple i =>
    cases dy with
    | int j =>
      simp only [opD] at e
      split at e
      · rename_i hz
        simp only [Option.some.injEq] at e
        subst e
        obtain ⟨a, vs, rfl, ha, da⟩ := tx
        cases (show y = .int j from ty)
        obtain ⟨z0, z1, z2, z3⟩ := hz
        refine op_repT pins s σ H _ _ v u Q I rx ry ⟨a, j, vs, rfl, rfl, ha, ?_, z1, z2, by rw [da.length]; exact z3, fun p hp => o.tup m (drep _ da) hp⟩
        rintro rfl
        cases da
        simp at z0
      · simp at e
    | _ => simp [opD] at e
  | list i =>
    cases dy with
    | int j =>
      simp only [opD] at e
      split at e
      · rename_i hz
        simp only [Option.some.injEq] at e
        subst e
        obtain ⟨a, vs, rfl, ha, da⟩ := tx
        cases (show y = .int j from ty)
        obtain ⟨z1, z2, z3⟩ := hz
        cases rx
        obtain ⟨t, rfl⟩ := ry
        exact rep_any I ha z1 z2 (by rw [top_eq, da.length]; exact z3) fun p hp => o.lst m (drep _ da) hp
      · simp at e
    | _ => simp [opD] at e
  | _ => simp [opD] at e
end
end Cs
set_option Elab.async false
set_option linter.all false
set_option autoImplicit false
set_option maxRecDepth 100000
set_option maxHeartbeats 1000000
/-! Dicts by keys of any depth. -/
namespace Cs
open PySem L2 PyProof.Rows
section
variable (G : PySem.W.Frag) (w : World) (H : Hp) (C : Addr → Prop) {β : Type} (R : V → β → Prop)
/-- the entries of a dict: keys, and what stands at them -/
inductive EK : List DictEntry → List (PyData × β) → Prop
  | nil : EK [] []
  | cons {e : DictEntry} {es : List DictEntry} {kd : PyData} {y : β} {kv vv : V} {kvs : List (PyData × β)} : e.hash = (nk kd).hash w → RelV kv e.key → RelV vv e.val → DR G w H C kv kd → R vv y → EK es kvs → EK (e :: es) ((kd, y) :: kvs)
end
section
variable {G : PySem.W.Frag} {w : World} {H : Hp} {C : Addr → Prop} {f : Fm} {M : Mem} {β : Type} {R : V → β → Prop}
theorem DRk.ek : ∀ {es : List DictEntry} {kvs : List (PyData × PyData)}, DRk G w H C es kvs → EK G w H C (DR G w H C) es kvs
  | _, _, .nil => .nil
  | _, _, .cons a b c d e r => .cons a b c d e (DRk.ek r)
theorem EK.drk : ∀ {es : List DictEntry} {kvs : List (PyData × PyData)}, EK G w H C (DR G w H C) es kvs → DRk G w H C es kvs
  | _, _, .nil => .nil
  | _, _, .cons a b c d e r => .cons a b c d e (EK.drk r)
theorem RWk.ek : ∀ {es : List DictEntry} {kvs : List (PyData × W)}, RWk G w f M H es kvs → EK G w H (isC f M) (RW G w f M H) es kvs
  | [], [], _ => .nil
  | _ :: _, (_, _) :: _, ⟨⟨_, _, a, b, c, d, e⟩, r⟩ => .cons a b c d e (RWk.ek r)
  | [], _ :: _, h => h.elim
  | _ :: _, [], h => h.elim
theorem EK.rwk : ∀ {es : List DictEntry} {kvs : List (PyData × W)}, EK G w H (isC f M) (RW G w f M H) es kvs → RWk G w f M H es kvs
  | _, _, .nil => trivial
  | _, _, .cons a b c d e r => ⟨⟨_, _, a, b, c, d, e⟩, EK.rwk r⟩
theorem EK.length : ∀ {es : List DictEntry} {kvs : List (PyData × β)}, EK G w H C R es kvs → es.length = kvs.length
  | _, _, .nil => rfl
  | _, _, .cons _ _ _ _ _ r => by simp [EK.length r]
theorem EK.get : ∀ {es : List DictEntry} {kvs : List (PyData × β)} {i : Nat} {kd : PyData} {y : β}, EK G w H C R es kvs → kvs[i]? = some (kd, y) → ∃ e kv vv, es[i]? = some e ∧ RelV kv e.key ∧ RelV vv e.val ∧ DR G w H C kv kd ∧ R vv y
  | _, _, i, _, _, .nil, h => by simp at h
  | _, _, 0, _, _, .cons a b c d e _, h => by simp at h; obtain ⟨rfl, rfl⟩ := h; exact ⟨_, _, _, rfl, b, c, d, e⟩
  | _, _, i + 1, _, _, .cons _ _ _ _ _ r, h => by
    obtain ⟨e, kv, vv, q, z⟩ := EK.get (i := i) r (by simpa using h)
    exact ⟨e, kv, vv, by simpa using q, z⟩
end

/-! ### keys that are ints or texts -/
def leaf : PyData → Key
  | .int i => .inl i
  | .str x => .inr x
  | _ => .inl 0
theorem leaf_inj : ∀ {x y : PyData}, sort x = 1 → sort y = 1 → leaf x = leaf y → x = y := by
  intro x y hx hy h
  cases x <;> cases y <;> simp_all [sort, leaf]
theorem leaf_hash (w : World) : ∀ {x : PyData}, sort x = 1 → (nk x).hash w = keyH w (leaf x) := by
  intro x hx
  cases x <;> simp_all [sort, leaf, nk, NestedKey.hash, keyH]
theorem leaf_rel {G : PySem.W.Frag} {w : World} {H : Hp} {C : Addr → Prop} {v : V} {x : PyData} (hx : sort x = 1) (h : DR G w H C v x) : v = kV (leaf x) := by
  cases h <;> first | rfl | simp [sort] at hx
theorem leaf_sort (P : Program) (w : World) {u : Value} {x : PyData} (hx : sort x = 1) (h : (mixKind P w).is (leaf x) u = true) : RelV (kV (leaf x)) u := by
  rcases keyIs_shape (show keyIs (leaf x) u = true from h) with ⟨i, t, e, rfl⟩ | ⟨z, t, e, rfl⟩ <;> (rw [e]; exact ⟨t, rfl⟩)
theorem leaf_dr {G : PySem.W.Frag} {w : World} {H : Hp} {C : Addr → Prop} {x : PyData} (hx : sort x = 1) : DR G w H C (kV (leaf x)) x := by
  cases x <;> first | exact .int _ | exact .str _ | simp [sort] at hx
theorem leaf_key {x : PyData} (hx : sort x = 1) : isKey 8 x = true := by
  cases x <;> simp_all [sort, isKey]
def lps : List DictEntry → List PyData → List (Key × Value)
  | e :: es, k :: ks => (leaf k, e.val) :: lps es ks
  | _, _ => []
section
variable {G : PySem.W.Frag} {w : World} {H : Hp} {C : Addr → Prop} {β : Type} {R : V → β → Prop} {P : Program}
theorem lps_keys : ∀ {es : List DictEntry} {kvs : List (PyData × β)}, EK G w H C R es kvs → (lps es (kvs.map (·.1))).map (·.1) = kvs.map fun p => leaf p.1
  | _, _, .nil => rfl
  | _, _, .cons a b c d e r => by simp [lps, lps_keys r]
theorem lps_pairs : ∀ {es : List DictEntry} {kvs : List (PyData × β)}, EK G w H C R es kvs → (∀ p ∈ kvs, sort p.1 = 1) → Pairs (mixKind P w) es (lps es (kvs.map (·.1)))
  | _, _, .nil, _ => .nil
  | _, _, .cons (kd := kd) a b c d e r, h => by
    have hk : sort kd = 1 := h _ List.mem_cons_self
    refine .cons ?_ rfl (lps_pairs r fun p hp => h p (by simp [hp]))
    rw [leaf_rel hk d] at b
    exact kV_is b
theorem lps_hash : ∀ {es : List DictEntry} {kvs : List (PyData × β)}, EK G w H C R es kvs → (∀ p ∈ kvs, sort p.1 = 1) → ∀ e ∈ es, ∃ k, (mixKind P w).is k e.key = true ∧ e.hash = (mixKind P w).hash k
  | _, _, .nil, _, e, he => by simp at he
  | _, _, .cons (kd := kd) a b c d e r, h, x, hx => by
    have hk : sort kd = 1 := h _ List.mem_cons_self
    rcases List.mem_cons.mp hx with rfl | hx
    · rw [leaf_rel hk d] at b
      exact ⟨leaf kd, kV_is b, by rw [a, leaf_hash w hk]; rfl⟩
    · exact lps_hash r (fun p hp => h p (by simp [hp])) x hx
theorem leaf_nodup {kvs : List (PyData × β)} (k : KeysOk kvs) (h : ∀ p ∈ kvs, sort p.1 = 1) : (kvs.map fun p => leaf p.1).Nodup := by
  have := k.nd
  rw [List.nodup_iff_pairwise_ne, List.pairwise_map] at this ⊢
  refine this.imp_of_mem fun {p q} hp hq hne e => hne ?_
  rw [leaf_inj (h p hp) (h q hq) e]
/-- a dict by ints and texts, as the library's -/
theorem EK.leafDict {h : Heap} {a : Addr} {es : List DictEntry} {kvs : List (PyData × β)} {ep : Nat} (r : EK G w H C R es kvs) (k : KeysOk kvs) (hs : ∀ p ∈ kvs, sort p.1 = 1) (hd : h.DictRaw a es.toArray ep) :
    h.DictOf (mixKind P w) a (lps es (kvs.map (·.1))) := by
  obtain ⟨o, ho, hx, hdat⟩ := hd
  refine ⟨o, es.toArray, ep, ho, hx, hdat, fun e he => lps_hash r hs e (by simpa using he), by simpa using lps_pairs r hs, ?_⟩
  rw [lps_keys r]
  exact leaf_nodup k hs
/-- what is at a key -/
theorem EK.leafAt : ∀ {es : List DictEntry} {kvs : List (PyData × β)} {x : PyData}, EK G w H C R es kvs → (∀ p ∈ kvs, sort p.1 = 1) → sort x = 1 →
    (match dget kvs x with
      | some y => ∃ u vv, valueAt (lps es (kvs.map (·.1))) (leaf x) = some u ∧ RelV vv u ∧ R vv y
      | none => valueAt (lps es (kvs.map (·.1))) (leaf x) = none)
  | _, _, x, .nil, _, _ => by simp [dget, valueAt, lps]
  | _, _, x, .cons (kd := kd) (y := y) (kvs := kvs) (es := es) (e := en) (vv := vv) a b c d e r, h, hx => by
    have hk : sort kd = 1 := h _ List.mem_cons_self
    have ih := EK.leafAt (x := x) r (fun p hp => h p (by simp [hp])) hx
    by_cases e1 : kd = x
    · subst e1
      have q : dget ((kd, y) :: kvs) kd = some y := by simp [dget, eqv_refl_key 8 kd (leaf_key hk)]
      rw [q]
      exact ⟨en.val, vv, by simp [valueAt, lps], c, e⟩
    · have n1 : PyData.eqv kd x = false := by
        cases hq : PyData.eqv kd x with
        | false => rfl
        | true => exact absurd ((eqv_key 8 kd x (leaf_key hk) (leaf_key hx)).1 hq) e1
      have q : dget ((kd, y) :: kvs) x = dget kvs x := by simp [dget, n1]
      have n2 : ¬ leaf kd = leaf x := fun z => e1 (leaf_inj hk hx z)
      have q2 : valueAt (lps (en :: es) (((kd, y) :: kvs).map (·.1))) (leaf x) = valueAt (lps es (kvs.map (·.1))) (leaf x) := by simp [valueAt, lps, n2]
      rw [q, q2]
      exact ih
end

/-! ### keys that are tuples -/
def tps : List DictEntry → List PyData → List (NestedKey × Addr × Value)
  | e :: es, k :: ks => (nk k, (match e.key with | .ref a => a | _ => 0), e.val) :: tps es ks
  | _, _ => []
theorem nk_depth : ∀ (n : Nat) (x : PyData), isKey n x = true → (nk x).depth ≤ n := by
  intro n
  induction n with
  | zero => intro x h; cases x <;> simp_all [isKey, nk, NestedKey.depth]
  | succ n ih =>
    intro x h
    cases x with
    | tuple xs =>
      simp only [isKey, List.all_eq_true] at h
      have all : ∀ ys : List PyData, (∀ y ∈ ys, isKey n y = true) → NestedKey.depthAll (nks ys) ≤ n := by
        intro ys
        induction ys with
        | nil => intro _; simp [nks, NestedKey.depthAll]
        | cons y ys ih2 =>
          intro hy
          have p := ih y (hy y (by simp))
          have q := ih2 fun z hz => hy z (by simp [hz])
          simp only [nks, NestedKey.depthAll]
          omega
      have := all xs h
      simp only [nk, NestedKey.depth]
      omega
    | _ => simp_all [isKey, nk, NestedKey.depth]
section
variable {X : Cx} {pins : List (Addr × Obj)} {σ : L2.St} {H : Hp} {s : Shared} {C : Addr → Prop} {β : Type} {R : V → β → Prop}
mutual
theorem DR.nested (I : Inv X pins σ H s) : ∀ {n : Nat} {v : V} {x : PyData} {u : Value}, DR X.K X.w H C v x → isKey n x = true → RelV v u → NestedIs s.heap (nk x) u
  | _, _, _, _, .non, _, r => by cases r; exact .none
  | _, _, _, _, .bl b, h, _ => by simp [isKey] at h
  | _, _, _, _, .int i, _, r => by obtain ⟨t, rfl⟩ := r; exact .int i t
  | _, _, _, _, .str x, _, r => by obtain ⟨t, rfl⟩ := r; exact .text x t
  | _, _, _, _, .lst _ _, h, _ => by simp [isKey] at h
  | 0, _, _, _, .tup _ _, h, _ => by simp [isKey] at h
  | n + 1, _, _, _, .tup q rs, h, r => by
    cases r
    obtain ⟨its, rv, ⟨o, ho, hc, k, hdt⟩, _⟩ := I.tuple q.sq
    rw [nk]
    exact .tup ho hc hdt (by simpa using DRs.nested I rs (n := n) (by simpa [isKey] using h) rv)
  | _, _, _, _, .dic _ _ _, h, _ => by simp [isKey] at h
theorem DRs.nested (I : Inv X pins σ H s) : ∀ {n : Nat} {vs : List V} {xs : List PyData} {us : List Value}, DRs X.K X.w H C vs xs → (∀ x ∈ xs, isKey n x = true) → Vals vs us → NestedAll s.heap (nks xs) us
  | _, _, _, _, .nil, _, r => by cases r; exact .nil
  | n, _, _, _, .cons d rs, h, r => by
    cases r with
    | cons r rr =>
      rw [nks]
      exact .cons (DR.nested I d (h _ (by simp)) r) (DRs.nested I rs (fun z hz => h z (by simp [hz])) rr)
end
theorem tup_ref {v : V} {x : PyData} (hx : sort x = 2) (h : DR X.K X.w H C v x) : ∃ a, v = .ref a := by
  cases h <;> first | exact ⟨_, rfl⟩ | simp [sort] at hx
/-- a tuple that is a key -/
theorem tup_is (I : Inv X pins σ H s) {v : V} {x : PyData} {a : Addr} (hx : isKey 8 x = true) (h : DR X.K X.w H C v x) (e : v = .ref a) : (nestedKind X.prog X.w).is s.heap (nk x) a := by
  subst e
  exact ⟨DR.nested I h hx rfl, nk_depth 8 x hx⟩
theorem tps_keys : ∀ {es : List DictEntry} {kvs : List (PyData × β)}, EK X.K X.w H C R es kvs → (tps es (kvs.map (·.1))).map (·.1) = kvs.map fun p => nk p.1
  | _, _, .nil => rfl
  | _, _, .cons a b c d e r => by simp [tps, tps_keys r]
theorem tps_es : ∀ {es : List DictEntry} {kvs : List (PyData × β)}, EK X.K X.w H C R es kvs → (∀ p ∈ kvs, sort p.1 = 2) → es = (tps es (kvs.map (·.1))).map (entryOfKey (nestedKind X.prog X.w))
  | _, _, .nil, _ => rfl
  | _, _, .cons (e := en) (kd := kd) a b c d e r, h => by
    obtain ⟨ka, rfl⟩ := tup_ref (h _ List.mem_cons_self) d
    have hk : en.key = .ref ka := b
    have ih := tps_es r fun p hp => h p (by simp [hp])
    rw [List.map_cons, tps, List.map_cons, ← ih]
    congr 1
    obtain ⟨hh, kk, vv⟩ := en
    simp only at hk a
    subst hk
    simp only [entryOfKey]
    rw [a]; rfl
theorem tps_is (I : Inv X pins σ H s) : ∀ {es : List DictEntry} {kvs : List (PyData × β)}, EK X.K X.w H C R es kvs → (∀ p ∈ kvs, sort p.1 = 2 ∧ isKey 8 p.1 = true) → ∀ x ∈ tps es (kvs.map (·.1)), (nestedKind X.prog X.w).is s.heap x.1 x.2.1
  | _, _, .nil, _, x, hx => by simp [tps] at hx
  | _, _, .cons (e := en) (kd := kd) a b c d e r, h, x, hx => by
    obtain ⟨h1, h2⟩ := h _ List.mem_cons_self
    rw [List.map_cons, tps] at hx
    rcases List.mem_cons.mp hx with rfl | hx
    · obtain ⟨ka, rfl⟩ := tup_ref h1 d
      have hk : en.key = .ref ka := b
      simp only [hk]
      exact tup_is I h2 d rfl
    · exact tps_is I r (fun p hp => h p (by simp [hp])) x hx
theorem EK.tupDict (I : Inv X pins σ H s) {a : Addr} {es : List DictEntry} {kvs : List (PyData × β)} {ep : Nat} (r : EK X.K X.w H C R es kvs) (k : KeysOk kvs) (hs : ∀ p ∈ kvs, sort p.1 = 2) (hd : s.heap.DictRaw a es.toArray ep) :
    s.heap.DictOfH (nestedKind X.prog X.w) a (tps es (kvs.map (·.1))) := by
  obtain ⟨o, ho, hx, hdat⟩ := hd
  refine ⟨o, es.toArray, ep, ho, hx, hdat, by simpa using tps_es r hs, tps_is I r fun p hp => ⟨hs p hp, k.key p hp⟩, ?_⟩
  rw [tps_keys r]
  exact k.nd
theorem EK.tupAt : ∀ {es : List DictEntry} {kvs : List (PyData × β)} {x : PyData}, EK X.K X.w H C R es kvs → (∀ p ∈ kvs, isKey 8 p.1 = true) → isKey 8 x = true →
    (match dget kvs x with
      | some y => ∃ a u vv, atKey (tps es (kvs.map (·.1))) (nk x) = some (a, u) ∧ RelV vv u ∧ R vv y
      | none => atKey (tps es (kvs.map (·.1))) (nk x) = none)
  | _, _, x, .nil, _, _ => by simp [dget, atKey, tps]
  | _, _, x, .cons (kd := kd) (y := y) (kvs := kvs) (es := es) (e := en) (vv := vv) a b c d e r, h, hx => by
    have hk : isKey 8 kd = true := h _ List.mem_cons_self
    have ih := EK.tupAt (x := x) r (fun p hp => h p (by simp [hp])) hx
    by_cases e1 : kd = x
    · subst e1
      have q : dget ((kd, y) :: kvs) kd = some y := by simp [dget, eqv_refl_key 8 kd hk]
      rw [q]
      exact ⟨_, en.val, vv, by simp [atKey, tps]; rfl, c, e⟩
    · have n1 : PyData.eqv kd x = false := by
        cases hq : PyData.eqv kd x with
        | false => rfl
        | true => exact absurd ((eqv_key 8 kd x hk hx).1 hq) e1
      have q : dget ((kd, y) :: kvs) x = dget kvs x := by simp [dget, n1]
      have n2 : ¬ nk kd = nk x := fun z => e1 (nk_inj 8 kd x hk hx z)
      have q2 : atKey (tps (en :: es) (((kd, y) :: kvs).map (·.1))) (nk x) = atKey (tps es (kvs.map (·.1))) (nk x) := by simp [atKey, tps, n2]
      rw [q, q2]
      exact ih
end
end Cs
set_option Elab.async false
set_option linter.all false
set_option autoImplicit false
set_option maxRecDepth 100000
set_option maxHeartbeats 1000000
/-! Dicts: asked, read, written. -/
namespace Cs
open PySem L2 PyProof.Rows
section
variable {G : PySem.W.Frag} {w : World} {H : Hp} {C : Addr → Prop} {β : Type} {R : V → β → Prop} {P : Program}
/-! ### by ints and texts -/
def LP (R : V → β → Prop) : List (Key × Value) → List (PyData × β) → Prop
  | [], [] => True
  | (k, u) :: ps, (kd, y) :: kvs => (k = leaf kd ∧ sort kd = 1 ∧ ∃ vv, RelV vv u ∧ R vv y) ∧ LP R ps kvs
  | _, _ => False
theorem LP.of : ∀ {es : List DictEntry} {kvs : List (PyData × β)}, EK G w H C R es kvs → (∀ p ∈ kvs, sort p.1 = 1) → LP R (lps es (kvs.map (·.1))) kvs
  | _, _, .nil, _ => trivial
  | _, _, .cons a b c d e r, h => ⟨⟨rfl, h _ List.mem_cons_self, _, c, e⟩, LP.of r fun p hp => h p (List.mem_cons_of_mem _ hp)⟩
theorem LP.any {x : PyData} (hx : sort x = 1) : ∀ {ps : List (Key × Value)} {kvs : List (PyData × β)}, LP R ps kvs → (ps.any fun kv => decide (kv.1 = leaf x)) = kvs.any fun p => PyData.eqv p.1 x
  | [], [], _ => rfl
  | (k, u) :: ps, (kd, y) :: kvs, ⟨⟨e, hs, _⟩, r⟩ => by
    rw [List.any_cons, List.any_cons, LP.any hx r]
    subst e
    congr 1
    by_cases q : kd = x
    · subst q; simp [eqv_refl_key 8 kd (leaf_key hs)]
    · have n1 : ¬ leaf kd = leaf x := fun z => q (leaf_inj hs hx z)
      have n2 : ¬ PyData.eqv kd x = true := fun z => q ((eqv_key 8 kd x (leaf_key hs) (leaf_key hx)).1 z)
      simp [n1, n2]
  | [], _ :: _, h => h.elim
  | _ :: _, [], h => h.elim
theorem LP.map {x : PyData} {v : Value} {y : β} {vv : V} (hx : sort x = 1) (rv : RelV vv v) (ry : R vv y) : ∀ {ps : List (Key × Value)} {kvs : List (PyData × β)}, LP R ps kvs →
    LP R (ps.map fun kv => if kv.1 = leaf x then (kv.1, v) else kv) (kvs.map fun p => if PyData.eqv p.1 x then (p.1, y) else p)
  | [], [], _ => trivial
  | (k, u) :: ps, (kd, z) :: kvs, ⟨⟨e, hs, v2, a, b⟩, r⟩ => by
    rw [List.map_cons, List.map_cons]
    subst e
    by_cases q : kd = x
    · subst q
      simp only [eqv_refl_key 8 kd (leaf_key hs), if_true]
      exact ⟨⟨rfl, hs, vv, rv, ry⟩, LP.map hx rv ry r⟩
    · have n1 : ¬ leaf kd = leaf x := fun z => q (leaf_inj hs hx z)
      have n2 : ¬ PyData.eqv kd x = true := fun z => q ((eqv_key 8 kd x (leaf_key hs) (leaf_key hx)).1 z)
      simp only [n1, n2, if_false]
      exact ⟨⟨rfl, hs, v2, a, b⟩, LP.map hx rv ry r⟩
  | [], _ :: _, h => h.elim
  | _ :: _, [], h => h.elim
theorem LP.push {x : PyData} {v : Value} {y : β} {vv : V} (hx : sort x = 1) (rv : RelV vv v) (ry : R vv y) : ∀ {ps : List (Key × Value)} {kvs : List (PyData × β)}, LP R ps kvs → LP R (ps ++ [(leaf x, v)]) (kvs ++ [(x, y)])
  | [], [], _ => ⟨⟨rfl, hx, vv, rv, ry⟩, trivial⟩
  | (k, u) :: ps, (kd, z) :: kvs, ⟨a, r⟩ => ⟨a, LP.push hx rv ry r⟩
  | [], _ :: _, h => h.elim
  | _ :: _, [], h => h.elim
theorem LP.stored {x : PyData} {v : Value} {y : β} {vv : V} (hx : sort x = 1) (rv : RelV vv v) (ry : R vv y) {ps : List (Key × Value)} {kvs : List (PyData × β)} (r : LP R ps kvs) : LP R (stored ps (leaf x) v) (dput kvs x y) := by
  unfold PySem.stored dput
  rw [LP.any hx r]
  split
  · exact r.map hx rv ry
  · exact r.push hx rv ry
theorem LP.ek : ∀ {es : List DictEntry} {ps : List (Key × Value)} {kvs : List (PyData × β)}, Pairs (mixKind P w) es ps → (∀ e ∈ es, ∃ k, (mixKind P w).is k e.key = true ∧ e.hash = (mixKind P w).hash k) → LP R ps kvs → EK G w H C R es kvs
  | _, _, [], .nil, _, _ => .nil
  | _, _, (kd, y) :: kvs, .cons (e := e) (kv := kv) h1 h2 r, hh, q => by
    obtain ⟨⟨e1, hs, vv, a, b⟩, t⟩ := q
    obtain ⟨k2, z1, z2⟩ := hh e List.mem_cons_self
    have e1' : kv.1 = leaf kd := e1
    rw [e1'] at h1
    have ek : k2 = leaf kd := (mixKind P w).inj _ _ _ z1 h1
    subst ek
    have a' : RelV vv kv.2 := a
    refine .cons (by rw [z2, leaf_hash w hs]; rfl) (leaf_sort P w hs h1) (by rw [h2]; exact a') (leaf_dr hs) b (LP.ek r (fun e he => hh e (List.mem_cons_of_mem _ he)) t)
  | _, _, _ :: _, .nil, _, h => h.elim
  | _, _, [], .cons _ _ _, _, h => h.elim
/-! ### by tuples -/
def TP (G : PySem.W.Frag) (w : World) (H : Hp) (C : Addr → Prop) (R : V → β → Prop) : List (NestedKey × Addr × Value) → List (PyData × β) → Prop
  | [], [] => True
  | (k, a, u) :: ps, (kd, y) :: kvs => (k = nk kd ∧ isKey 8 kd = true ∧ DR G w H C (.ref a) kd ∧ ∃ vv, RelV vv u ∧ R vv y) ∧ TP G w H C R ps kvs
  | _, _ => False
theorem TP.any {x : PyData} (hx : isKey 8 x = true) : ∀ {ps : List (NestedKey × Addr × Value)} {kvs : List (PyData × β)}, TP G w H C R ps kvs → (atKey ps (nk x)).isSome = kvs.any fun p => PyData.eqv p.1 x
  | [], [], _ => rfl
  | (k, a, u) :: ps, (kd, y) :: kvs, ⟨⟨e, hs, _⟩, r⟩ => by
    rw [List.any_cons, ← TP.any hx r]
    subst e
    by_cases q : kd = x
    · subst q; simp [eqv_refl_key 8 kd hs, atKey]
    · have n1 : ¬ nk kd = nk x := fun z => q (nk_inj 8 kd x hs hx z)
      have n2 : ¬ PyData.eqv kd x = true := fun z => q ((eqv_key 8 kd x hs hx).1 z)
      simp [n1, n2, atKey]
  | [], _ :: _, h => h.elim
  | _ :: _, [], h => h.elim
theorem TP.map {x : PyData} {v : Value} {y : β} {vv : V} (hx : isKey 8 x = true) (rv : RelV vv v) (ry : R vv y) : ∀ {ps : List (NestedKey × Addr × Value)} {kvs : List (PyData × β)}, TP G w H C R ps kvs →
    TP G w H C R (ps.map (putAt (nk x) v)) (kvs.map fun p => if PyData.eqv p.1 x then (p.1, y) else p)
  | [], [], _ => trivial
  | (k, a, u) :: ps, (kd, z) :: kvs, ⟨⟨e, hs, hd, v2, q1, q2⟩, r⟩ => by
    rw [List.map_cons, List.map_cons]
    subst e
    by_cases q : kd = x
    · subst q
      simp only [eqv_refl_key 8 kd hs, if_true, putAt]
      exact ⟨⟨rfl, hs, hd, vv, rv, ry⟩, TP.map hx rv ry r⟩
    · have n1 : ¬ nk kd = nk x := fun z => q (nk_inj 8 kd x hs hx z)
      have n2 : ¬ PyData.eqv kd x = true := fun z => q ((eqv_key 8 kd x hs hx).1 z)
      simp only [n1, n2, if_false, putAt]
      exact ⟨⟨rfl, hs, hd, v2, q1, q2⟩, TP.map hx rv ry r⟩
  | [], _ :: _, h => h.elim
  | _ :: _, [], h => h.elim
theorem TP.push {x : PyData} {a : Addr} {v : Value} {y : β} {vv : V} (hx : isKey 8 x = true) (hd : DR G w H C (.ref a) x) (rv : RelV vv v) (ry : R vv y) : ∀ {ps : List (NestedKey × Addr × Value)} {kvs : List (PyData × β)}, TP G w H C R ps kvs →
    TP G w H C R (ps ++ [(nk x, a, v)]) (kvs ++ [(x, y)])
  | [], [], _ => ⟨⟨rfl, hx, hd, vv, rv, ry⟩, trivial⟩
  | (k, _, u) :: ps, (kd, z) :: kvs, ⟨q, r⟩ => ⟨q, TP.push hx hd rv ry r⟩
  | [], _ :: _, h => h.elim
  | _ :: _, [], h => h.elim
theorem TP.stored {x : PyData} {a : Addr} {v : Value} {y : β} {vv : V} (hx : isKey 8 x = true) (hd : DR G w H C (.ref a) x) (rv : RelV vv v) (ry : R vv y) {ps : List (NestedKey × Addr × Value)} {kvs : List (PyData × β)} (r : TP G w H C R ps kvs) :
    TP G w H C R (storedH ps (nk x) a v) (dput kvs x y) := by
  unfold storedH dput
  rw [TP.any hx r]
  split
  · exact r.map hx rv ry
  · exact r.push hx hd rv ry
theorem TP.ek : ∀ {ps : List (NestedKey × Addr × Value)} {kvs : List (PyData × β)}, TP G w H C R ps kvs → EK G w H C R (ps.map (entryOfKey (nestedKind P w))) kvs
  | [], [], _ => .nil
  | (k, a, u) :: ps, (kd, z) :: kvs, ⟨⟨e, hs, hd, v2, q1, q2⟩, r⟩ => by
    subst e
    exact .cons rfl (kv := .ref a) rfl q1 hd q2 (TP.ek r)
  | [], _ :: _, h => h.elim
  | _ :: _, [], h => h.elim
end
theorem askOk_def {β : Type} {kvs : List (PyData × β)} {k : PyData} (h : askOk kvs k = true) : isKey 8 k = true ∧ ((sort k = 1 ∧ ∀ p ∈ kvs, sort p.1 = 1) ∨ (sort k = 2 ∧ ∀ p ∈ kvs, sort p.1 = 2)) := by
  unfold askOk at h
  rw [Bool.and_eq_true, Bool.and_eq_true] at h
  obtain ⟨h1, h2, h3⟩ := h
  refine ⟨h1, ?_⟩
  have h4 : ∀ p ∈ kvs, sort p.1 = sort k := fun p hp => by simpa using List.all_eq_true.mp h3 p hp
  cases hk : sort k with
  | zero => rw [hk] at h2; simp at h2
  | succ n =>
    cases n with
    | zero => exact .inl ⟨rfl, fun p hp => by rw [h4 p hp, hk]⟩
    | succ n =>
      cases n with
      | zero => exact .inr ⟨rfl, fun p hp => by rw [h4 p hp, hk]⟩
      | succ n => cases k <;> simp [sort] at hk
section
variable {X : Cx} {pins : List (Addr × Obj)} {σ : L2.St} {H : Hp} {s : Shared} {C C' : Addr → Prop} {β : Type} {R : V → β → Prop} {A : Around} {E : Value → Shared → Prop} {a : Addr} {es : List DictEntry} {kvs : List (PyData × β)} {ep : Nat} {x : PyData} {v : V} {u : Value}
theorem TP.of (I : Inv X pins σ H s) : ∀ {es : List DictEntry} {kvs : List (PyData × β)}, EK X.K X.w H C R es kvs → (∀ p ∈ kvs, sort p.1 = 2 ∧ isKey 8 p.1 = true) → TP X.K X.w H C R (tps es (kvs.map (·.1))) kvs
  | _, _, .nil, _ => trivial
  | _, _, .cons (e := en) (kd := kd) a b c d e r, h => by
    obtain ⟨h1, h2⟩ := h _ List.mem_cons_self
    obtain ⟨ka, rfl⟩ := tup_ref h1 d
    have hk : en.key = .ref ka := b
    refine ⟨⟨rfl, h2, ?_, _, c, e⟩, TP.of I r fun p hp => h p (List.mem_cons_of_mem _ hp)⟩
    simp only [hk]
    exact d
/-- x in d -/
theorem dict_has (I : Inv X pins σ H s) (hu : A.units + 20 < cLine) (hm : (a == sysModules) = false) (hr : s.heap.DictRaw a es.toArray ep) (r : EK X.K X.w H C R es kvs) (k : KeysOk kvs) (ask : askOk kvs x = true) (hx : DR X.K X.w H C' v x) (ru : RelV v u)
    {Q : Value → Shared → Prop} (h : ∀ t, Q (.bool (dget kvs x).isSome) { s with toks := t }) : wpAny (model X.prog X.w) A (compareOp .In u (.ref a)) Q E s := by
  obtain ⟨hk, ⟨h1, h2⟩ | ⟨h1, h2⟩⟩ := askOk_def ask
  · have ev : v = kV (leaf x) := leaf_rel h1 hx
    subst ev
    refine wpAny_in_of (kV_is (P := X.prog) (w := X.w) ru) hm (r.leafDict k h2 hr).mapOf ?_
    have q := r.leafAt h2 h1
    cases hg : dget kvs x with
    | none => rw [hg] at q h; rw [q]; exact h _
    | some y => rw [hg] at q h; obtain ⟨u', _, e, _⟩ := q; rw [e]; exact h _
  · obtain ⟨ka, rfl⟩ := tup_ref h1 hx
    cases ru
    refine wpAny_in_heap (knd := nestedKind X.prog X.w) (by show A.units + 1 + 8 < cLine; omega) (tup_is I hk hx rfl) hm (r.tupDict I k h2 hr) ?_
    have q := r.tupAt k.key hk
    cases hg : dget kvs x with
    | none => rw [hg] at q h; rw [q]; exact h _
    | some y => rw [hg] at q h; obtain ⟨_, u', _, e, _⟩ := q; rw [e]; exact h _
theorem dict_hasNot (I : Inv X pins σ H s) (hu : A.units + 20 < cLine) (hm : (a == sysModules) = false) (hr : s.heap.DictRaw a es.toArray ep) (r : EK X.K X.w H C R es kvs) (k : KeysOk kvs) (ask : askOk kvs x = true) (hx : DR X.K X.w H C' v x) (ru : RelV v u)
    {Q : Value → Shared → Prop} (h : ∀ t, Q (.bool (!(dget kvs x).isSome)) { s with toks := t }) : wpAny (model X.prog X.w) A (compareOp .NotIn u (.ref a)) Q E s := by
  obtain ⟨hk, ⟨h1, h2⟩ | ⟨h1, h2⟩⟩ := askOk_def ask
  · have ev : v = kV (leaf x) := leaf_rel h1 hx
    subst ev
    refine wpAny_notIn_of (kV_is (P := X.prog) (w := X.w) ru) hm (r.leafDict k h2 hr).mapOf ?_
    have q := r.leafAt h2 h1
    cases hg : dget kvs x with
    | none => rw [hg] at q h; rw [q]; exact h _
    | some y => rw [hg] at q h; obtain ⟨u', _, e, _⟩ := q; rw [e]; exact h _
  · obtain ⟨ka, rfl⟩ := tup_ref h1 hx
    cases ru
    refine wpAny_notIn_heap (knd := nestedKind X.prog X.w) (by show A.units + 1 + 8 < cLine; omega) (tup_is I hk hx rfl) hm (r.tupDict I k h2 hr) ?_
    have q := r.tupAt k.key hk
    cases hg : dget kvs x with
    | none => rw [hg] at q h; rw [q]; exact h _
    | some y => rw [hg] at q h; obtain ⟨_, u', _, e, _⟩ := q; rw [e]; exact h _
/-- d[x], there -/
theorem dict_item (I : Inv X pins σ H s) (hu : A.units + 20 < cLine) (hr : s.heap.DictRaw a es.toArray ep) (r : EK X.K X.w H C R es kvs) (k : KeysOk kvs) (ask : askOk kvs x = true) (hx : DR X.K X.w H C' v x) (ru : RelV v u) {y : β} (hg : dget kvs x = some y)
    {Q : Value → Shared → Prop} (h : ∀ t u' vv, RelV vv u' → R vv y → Q u' { s with toks := t }) : wpAny (model X.prog X.w) A (getItem (.ref a) u) Q E s := by
  obtain ⟨hk, ⟨h1, h2⟩ | ⟨h1, h2⟩⟩ := askOk_def ask
  · have ev : v = kV (leaf x) := leaf_rel h1 hx
    subst ev
    have q := r.leafAt h2 h1
    rw [hg] at q
    obtain ⟨u', vv, e, e1, e2⟩ := q
    exact wpAny_getItem_of (kV_is (P := X.prog) (w := X.w) ru) (r.leafDict k h2 hr).mapOf e (h _ _ _ e1 e2)
  · obtain ⟨ka, rfl⟩ := tup_ref h1 hx
    cases ru
    have q := r.tupAt k.key hk
    rw [hg] at q
    obtain ⟨b, u', vv, e, e1, e2⟩ := q
    exact wpAny_getItem_heap (knd := nestedKind X.prog X.w) (by show A.units + 1 + 8 < cLine; omega) (tup_is I hk hx rfl) (r.tupDict I k h2 hr) e (h _ _ _ e1 e2)
/-- d[x] = y -/
theorem dict_set (I : Inv X pins σ H s) (hu : A.units + 20 < cLine) (hr : s.heap.DictRaw a es.toArray ep) (r : EK X.K X.w H C R es kvs) (k : KeysOk kvs) (ask : askOk kvs x = true) (hx : DR X.K X.w H C v x) (ru : RelV v u) {y : β} {vv : V} {uv : Value} (rv : RelV vv uv) (ry : R vv y)
    {Q : Unit → Shared → Prop} (h : ∀ t h' es' ep', h'.DictRaw a es'.toArray ep' → EK X.K X.w H C R es' (dput kvs x y) → Heap.SameBut a s.heap h' → Q () { s with heap := h', toks := t }) : wpAny (model X.prog X.w) A (setItem (.ref a) u uv) Q E s := by
  have hlen : es.length ≤ sizeLine := by rw [r.length, top_eq]; exact k.len
  obtain ⟨hk, ⟨h1, h2⟩ | ⟨h1, h2⟩⟩ := askOk_def ask
  · have ev : v = kV (leaf x) := leaf_rel h1 hx
    subst ev
    have ll : ∀ (es : List DictEntry) (ks : List PyData), es.length = ks.length → (lps es ks).length = es.length := by
      intro es
      induction es with
      | nil => intro ks _; simp [lps]
      | cons e es ih => intro ks hl; cases ks with
        | nil => simp at hl
        | cons k ks => simp [lps, ih ks (by simpa using hl)]
    refine wpAny_setItem_pairs (kV_is (P := X.prog) (w := X.w) ru) (r.leafDict k h2 hr) (fun h' dd hs => ?_) (by rw [ll _ _ (by rw [r.length]; simp)]; exact hlen)
    obtain ⟨o, es2, ep2, q1, q2, q3, q4, q5, _⟩ := dd
    refine h _ h' es2.toList ep2 ⟨o, q1, q2, by simpa using q3⟩ (LP.ek (P := X.prog) q5 (fun e he => q4 e (by simpa using he)) ((LP.of r h2).stored h1 rv ry)) hs
  · obtain ⟨ka, rfl⟩ := tup_ref h1 hx
    cases ru
    have ll : ∀ (es : List DictEntry) (ks : List PyData), es.length = ks.length → (tps es ks).length = es.length := by
      intro es
      induction es with
      | nil => intro ks _; simp [tps]
      | cons e es ih => intro ks hl; cases ks with
        | nil => simp at hl
        | cons k ks => simp [tps, ih ks (by simpa using hl)]
    refine wpAny_setItem_heap (knd := nestedKind X.prog X.w) (by show A.units + 1 + 8 < cLine; omega) (tup_is I hk hx rfl) (r.tupDict I k h2 hr) (fun h' dd hs => ?_) (by rw [ll _ _ (by rw [r.length]; simp)]; exact hlen)
    obtain ⟨o, es2, ep2, q1, q2, q3, q4, _, _⟩ := dd
    have q := ((TP.of I r fun p hp => ⟨h2 p hp, k.key p hp⟩).stored hk hx rv ry).ek (P := X.prog)
    refine h _ h' es2.toList ep2 ⟨o, q1, q2, by simpa using q3⟩ ?_ hs
    rw [q4]
    exact q
end
theorem dput_keys {β : Type} {kvs : List (PyData × β)} {x : PyData} {y : β} (k : KeysOk kvs) (h : putOk kvs x = true) : KeysOk (dput kvs x y) := by
  unfold putOk at h
  rw [Bool.and_eq_true] at h
  obtain ⟨ask, hl⟩ := h
  obtain ⟨hk, _⟩ := askOk_def ask
  have hl' : kvs.length < top := of_decide_eq_true hl
  unfold dput
  split
  · rename_i hany
    have e1 : (kvs.map fun p => if PyData.eqv p.1 x then (p.1, y) else p).map (fun p => nk p.1) = kvs.map fun p => nk p.1 := by
      rw [List.map_map]
      refine List.map_congr_left fun p _ => ?_
      show nk (if PyData.eqv p.1 x = true then (p.1, y) else p).1 = nk p.1
      split <;> rfl
    refine ⟨fun p hp => ?_, by rw [e1]; exact k.nd, by simpa using k.len⟩
    obtain ⟨q, hq, rfl⟩ := List.mem_map.mp hp
    have := k.key q hq
    split <;> exact this
  · rename_i hany
    refine ⟨fun p hp => ?_, ?_, by simp; omega⟩
    · rcases List.mem_append.mp hp with q | q
      · exact k.key p q
      · simp at q; subst q; exact hk
    · rw [List.map_append, List.nodup_append]
      refine ⟨k.nd, by simp, fun a ha b hb => ?_⟩
      simp at hb
      subst hb
      obtain ⟨p, hp, rfl⟩ := List.mem_map.mp ha
      intro e
      apply hany
      rw [List.any_eq_true]
      exact ⟨p, hp, (eqv_key 8 _ _ (k.key p hp) hk).2 (nk_inj 8 _ _ (k.key p hp) hk e)⟩
end Cs
set_option Elab.async false
set_option linter.all false
set_option autoImplicit false
set_option maxRecDepth 100000
set_option maxHeartbeats 1000000
/-! Comparisons. -/
namespace Cs
open PySem L2 PyProof.Rows
/-- the operator in the text -/
def Cm.op : Cm → CmpOp
  | .eq => .Eq | .ne => .NotEq | .lt => .Lt | .le => .LtE | .gt => .Gt | .ge => .GtE | .isN => .Is | .notN => .IsNot | .inn => .In | .nin => .NotIn
section
variable {X : Cx} {b : Nat}
theorem DT.dict {K : PySem.W.Frag} {w : World} {H : Hp} {C : Addr → Prop} {v : V} {kvs : List (PyData × PyData)} (h : DT K w H C v (.dict kvs)) : ∃ a es, v = .ref a ∧ DcAt K H (fun _ => False) a es ∧ EK K w H C (DR K w H C) es kvs ∧ KeysOk kvs :=
  let ⟨a, es, e, d, r, k⟩ := h; ⟨a, es, e, d, r.ek, k⟩
/-- a key as data: DT of a leaf or tuple is enough for DR with some exclusion -/
theorem DT.key {K : PySem.W.Frag} {w : World} {H : Hp} {f : Fm} {M : Mem} (m : MemOk K w f M H) {v : V} {x : PyData} (h : DT K w H (isC f M) v x) (hk : isKey 8 x = true) : DR K w H (isC f M) v x := by
  cases x with
  | none => cases (show v = .non from h); exact .non
  | bool b => simp [isKey] at hk
  | int i => cases (show v = .int i from h); exact .int i
  | str x => cases (show v = .str x from h); exact .str x
  | list xs => simp [isKey] at hk
  | tuple xs => obtain ⟨a, vs, rfl, h1, h2⟩ := h; exact .tup (m.tpAt h1) h2
  | dict xs => simp [isKey] at hk
/-- d != {} -/
theorem ne_raw {P : Program} {w : World} {A : Around} {E : Value → Shared → Prop} {s : Shared} {a b : Addr} {es : Array DictEntry} {ep ep' : Nat} {Q : Value → Shared → Prop} (ha : (a == sysModules) = false) (hb : (b == sysModules) = false)
    (da : s.heap.DictRaw a es ep) (db : s.heap.DictRaw b #[] ep') (hu : A.units < cLine) (h : Q (.bool (!(es.size == 0))) s) : wpAny (model P w) A (compareOp .NotEq (.ref a) (.ref b)) Q E s := by
  refine wpAny_richCompare_same_room (op := .NotEq) da.typeIs db.typeIs PySem.F.slot_dict_ne (wpAny_call_entry PySem.F.slot_dict_ne da.typeIs PySem.F.entry_dict_ne ?_ (PySem.F.args_dict_ne_2 _ _)) hu
  show wpAny _ _ (Builtin.Dict.dictSlotArgs "__ne__" ⟨[.ref a, .ref b], []⟩ >>= _) _ _ s
  refine wpAny_bind ?_
  unfold Builtin.Dict.dictSlotArgs
  refine wpAny_bind (wpAny_notOrdered_dict da.typeIs ?_)
  show wpAny _ _ (pure (Value.ref a, Value.ref b)) _ _ s
  refine wpAny_pure ?_
  refine wpAny_bind (wpAny_isInstance (T := "dict") db.typeIs PySem.F.sub_dict_dict ?_)
  simp only [Bool.not_true, Bool.false_eq_true, if_false]
  refine wpAny_bind (wpAny_pure (wpAny_bind (wpAny_pure ?_)))
  obtain ⟨oa, hoa, xa, hda⟩ := da
  obtain ⟨ob, hob, xb, hdb⟩ := db
  refine wpAny_bind (wpAny_mono (Q := fun r s' => s' = s ∧ r = (es.size == 0)) ?_ (fun r s' hr => ?_) fun _ _ x => x)
  · unfold Builtin.Dict.samePairs Builtin.Dict.showsAll
    rw [if_neg (show ¬ (a == sysModules) = true by rw [ha]; exact Bool.false_ne_true), if_neg (show ¬ (b == sysModules) = true by rw [hb]; exact Bool.false_ne_true)]
    refine wpAny_bind (wpAny_pure (wpAny_bind (wpAny_pure ?_)))
    refine wpAny_bind (wpAny_dictEntries hoa hda ?_)
    dsimp only
    refine wpAny_bind (wpAny_dictEntries hob hdb ?_)
    by_cases hsz : es.size = 0
    case neg =>
      rw [if_pos (by simpa using hsz)]
      have hbf : (es.size == 0) = false := by simpa using hsz
      exact wpAny_bind (wpAny_rule (wpAny_pure ⟨rfl, hbf.symm⟩))
    case pos =>
      rw [if_neg (by simp [hsz])]
      refine wpAny_bind (wpAny_dictEpoch hoa hda ?_)
      refine wpAny_bind ?_
      rw [Std.Legacy.Range.forIn_eq_forIn_range']
      simp only [Std.Legacy.Range.size, Nat.sub_zero, Nat.add_sub_cancel, Nat.div_one, hsz, List.range'_zero]
      refine wpAny_pure ?_
      exact wpAny_pure ⟨rfl, by simp⟩
  · obtain ⟨rfl, rfl⟩ := hr
    refine wpAny_pure ⟨_, rfl, ?_, ?_⟩
    · exact fun x => nomatch x
    · cases hz : (es.size == 0) <;> (rw [hz] at h; exact h)
theorem neE_def {x y : PyData} {c : Bool} (h : neE x y = some c) : ∃ kvs, x = .dict kvs ∧ y = .dict [] ∧ c = !kvs.isEmpty := by
  unfold neE at h
  split at h
  · exact ⟨_, rfl, rfl, (Option.some.inj h).symm⟩
  · cases h
theorem c_cmp (o : Cm) (hu : X.A.units + 100 < cLine) : OpR X (compareOp o.op) (dOp X b fun x y => (cmpD o x y).map .bool) := by
  intro pins s σ H x y v u Q I rx ry ⟨f, M, dx, dy, d, m, hb, tx, ty, e, out⟩
  obtain ⟨c, e2, rfl⟩ := Option.map_eq_some_iff.mp e
  clear e
  have e := e2
  clear e2
  have fin : ∀ t, EP X pins σ Q (.bool c) { s with toks := t } := fun t => ⟨.bl c, H, I.tok t, rfl, out.at m (.bl c)⟩
  have ins : ∀ (ys : List PyData), fine 60 dx = true → ys.all (fine 60) = true → (dy = .list ys ∨ dy = .tuple ys) → ∀ (neg : Bool), c = (neg != ys.any fun z => PyData.eqv z dx) →
      wpAny (model X.prog X.w) X.A (compareOp (if neg then .NotIn else .In) v u) (EP X pins σ Q) X.xe s := fun ys h1 h2 h3 neg hc => by
    obtain ⟨as, r1⟩ := tx.reads I rx
    obtain ⟨bs, r2⟩ := ty.reads I ry
    obtain ⟨l1, k1⟩ := fine_ok 60 _ h1
    obtain ⟨l2, k2⟩ := fines_ok 60 _ h2
    have hroom : X.A.units + 1 + min (PyData.depthAll ys) dx.depth < cLine := by omega
    rcases h3 with rfl | rfl
    · cases neg with
      | false => exact SeqAt.in_list_reads r2 r1 l2 l1 hroom (by have := fin s.toks; rw [hc] at this; simpa using this)
      | true => exact SeqAt.notIn_list_reads r2 r1 l2 l1 hroom (by have := fin s.toks; rw [hc] at this; simpa using this)
    · cases neg with
      | false => exact SeqAt.in_tuple_reads r2 r1 l2 l1 hroom (by have := fin s.toks; rw [hc] at this; simpa using this)
      | true => exact SeqAt.notIn_tuple_reads r2 r1 l2 l1 hroom (by have := fin s.toks; rw [hc] at this; simpa using this)
  have ind : ∀ kvs, dy = .dict kvs → askOk kvs dx = true → ∀ (neg : Bool), c = (neg != (dget kvs dx).isSome) → wpAny (model X.prog X.w) X.A (compareOp (if neg then .NotIn else .In) v u) (EP X pins σ Q) X.xe s := fun kvs h1 h2 neg hc => by
    subst h1
    obtain ⟨a, es, rfl, hd, r, k⟩ := ty.dict
    cases ry
    obtain ⟨ep, hr⟩ := hd.raw I
    have hk := tx.key m (askOk_def h2).1
    cases neg with
    | false => exact dict_has I (by omega) hd.1 hr r k h2 hk rx fun t => by have := fin t; rw [hc] at this; simpa using this
    | true => exact dict_hasNot I (by omega) hd.1 hr r k h2 hk rx fun t => by have := fin t; rw [hc] at this; simpa using this
  cases o with
  | eq =>
    simp only [cmpD] at e
    split at e
    · rename_i hf
      rw [Bool.and_eq_true] at hf
      simp only [Option.some.injEq] at e
      subst e
      obtain ⟨as, r1⟩ := tx.reads I rx
      obtain ⟨bs, r2⟩ := ty.reads I ry
      obtain ⟨l1, k1⟩ := fine_ok 60 _ hf.1
      obtain ⟨l2, k2⟩ := fine_ok 60 _ hf.2
      exact SeqAt.compareEq_reads r1 r2 l1 l2 (by omega) (fin s.toks)
    · simp at e
  | ne =>
    simp only [cmpD] at e
    split at e
    · rename_i hf
      rw [Bool.and_eq_true] at hf
      simp only [Option.some.injEq] at e
      subst e
      obtain ⟨as, r1⟩ := tx.reads I rx
      obtain ⟨bs, r2⟩ := ty.reads I ry
      obtain ⟨l1, k1⟩ := fine_ok 60 _ hf.1
      obtain ⟨l2, k2⟩ := fine_ok 60 _ hf.2
      exact SeqAt.compareNe_reads r1 r2 l1 l2 (by omega) (fin s.toks)
    · obtain ⟨kvs, rfl, rfl, rfl⟩ := neE_def e
      obtain ⟨a, es, rfl, hd, r, k⟩ := tx.dict
      obtain ⟨a2, es2, rfl, hd2, r2, k2⟩ := ty.dict
      cases rx
      cases ry
      obtain ⟨ep, hr⟩ := hd.raw I
      obtain ⟨ep2, hr2⟩ := hd2.raw I
      have z2 : es2 = [] := List.length_eq_zero_iff.mp r2.length
      subst z2
      have hl := r.length
      refine ne_raw hd.1 hd2.1 hr hr2 (by omega) ?_
      have e3 : (!(es.toArray.size == 0)) = !kvs.isEmpty := by
        rw [List.size_toArray, hl]
        cases kvs <;> simp
      rw [e3]
      exact fin s.toks
  | inn =>
    simp only [cmpD] at e
    cases dy with
    | list ys =>
      simp only at e
      split at e
      · rename_i hf
        rw [Bool.and_eq_true] at hf
        simp only [Option.some.injEq] at e
        exact ins ys hf.1 hf.2 (.inl rfl) false (by rw [← e]; simp)
      · simp at e
    | tuple ys =>
      simp only at e
      split at e
      · rename_i hf
        rw [Bool.and_eq_true] at hf
        simp only [Option.some.injEq] at e
        exact ins ys hf.1 hf.2 (.inr rfl) false (by rw [← e]; simp)
      · simp at e
    | dict kvs =>
      simp only at e
      split at e
      · rename_i hf
        simp only [Option.some.injEq] at e
        exact ind kvs rfl hf false (by rw [← e]; simp)
      · simp at e
    | str z =>
      cases dx with
      | str a =>
        simp only at e
        split at e
        · rename_i hsz
          simp only [Option.some.injEq] at e
          obtain ⟨cps⟩ := a
          obtain ⟨c0, hc0⟩ := Array.size_eq_one_iff.mp hsz
          have hc0 : cps = #[c0] := hc0
          subst hc0
          cases (show x = .str _ from tx)
          cases (show y = .str _ from ty)
          refine L2.op_in_sign pins s σ H _ _ v u Q I rx ry ⟨c0, z, rfl, rfl, ?_⟩
          have := out.at m (.bl c)
          rw [← e] at this
          exact this
        · simp at e
      | _ => simp at e
    | _ => simp at e
  | nin =>
    simp only [cmpD] at e
    cases dy with
    | list ys =>
      simp only at e
      split at e
      · rename_i hf
        rw [Bool.and_eq_true] at hf
        simp only [Option.map_some, Option.some.injEq] at e
        exact ins ys hf.1 hf.2 (.inl rfl) true (by rw [← e]; simp)
      · simp at e
    | tuple ys =>
      simp only at e
      split at e
      · rename_i hf
        rw [Bool.and_eq_true] at hf
        simp only [Option.map_some, Option.some.injEq] at e
        exact ins ys hf.1 hf.2 (.inr rfl) true (by rw [← e]; simp)
      · simp at e
    | dict kvs =>
      simp only at e
      split at e
      · rename_i hf
        simp only [Option.map_some, Option.some.injEq] at e
        exact ind kvs rfl hf true (by rw [← e]; simp)
      · simp at e
    | str z =>
      cases dx with
      | str a =>
        simp only at e
        split at e
        · rename_i hsz
          simp only [Option.map_some, Option.some.injEq] at e
          obtain ⟨cps⟩ := a
          obtain ⟨c0, hc0⟩ := Array.size_eq_one_iff.mp hsz
          have hc0 : cps = #[c0] := hc0
          subst hc0
          cases (show x = .str _ from tx)
          cases (show y = .str _ from ty)
          refine L2.op_notIn_sign pins s σ H _ _ v u Q I rx ry ⟨c0, z, rfl, rfl, ?_⟩
          have := out.at m (.bl c)
          rw [← e] at this
          exact this
        · simp at e
      | _ => simp at e
    | _ => simp at e
  | isN =>
    cases dx with
    | bool p =>
      cases dy with
      | bool q =>
        simp only [cmpD, Option.some.injEq] at e
        subst e
        cases (show x = .bl p from tx)
        cases (show y = .bl q from ty)
        exact L2.op_isBl pins s σ H _ _ v u Q I rx ry ⟨p, q, rfl, rfl, out.at m (.bl _)⟩
      | _ => simp [cmpD] at e
    | _ => simp [cmpD] at e
  | notN =>
    cases dx with
    | bool p =>
      cases dy with
      | bool q =>
        simp only [cmpD, Option.some.injEq] at e
        subst e
        cases (show x = .bl p from tx)
        cases (show y = .bl q from ty)
        exact L2.op_notBl pins s σ H _ _ v u Q I rx ry ⟨p, q, rfl, rfl, out.at m (.bl _)⟩
      | _ => simp [cmpD] at e
    | _ => simp [cmpD] at e
  | lt =>
    have oth : (∀ i j, ¬ (dx = .int i ∧ dy = .int j)) → wpAny (model X.prog X.w) X.A (compareOp .Lt v u) (EP X pins σ Q) X.xe s := fun hn => by
      have hno : dx ≠ .none := by rintro rfl; cases dy <;> simp [cmpD] at e
      have e' : (if (fine 60 dx && fine 60 dy && alike dx dy) = true then some (lt dx dy) else none) = some c := by
        rw [← e]
        cases dx <;> cases dy <;> first | rfl | exact absurd ⟨rfl, rfl⟩ (hn _ _) | exact absurd rfl hno
      split at e'
      · rename_i hf
        simp only [Bool.and_eq_true] at hf
        simp only [Option.some.injEq] at e'
        obtain ⟨as, r1⟩ := tx.reads I rx
        obtain ⟨bs, r2⟩ := ty.reads I ry
        obtain ⟨l1, k1⟩ := fine_ok 60 _ hf.1.1
        exact PySem.W.rcLt_alike dx dy X.A s v u as bs r1 r2 hf.2 hno (by omega) X.prog X.w X.xe _ (by have := fin s.toks; rw [← e'] at this; exact this)
      · simp at e'
    cases dx with
    | int i =>
      cases dy with
      | int j =>
        simp only [cmpD, Option.some.injEq] at e
        cases (show x = .int i from tx)
        cases (show y = .int j from ty)
        refine op_lt pins s σ H _ _ v u Q I rx ry ⟨i, j, rfl, rfl, ?_⟩
        show Q (.bl (decide (i < j))) H
        rw [show decide (i < j) = c from e]
        exact out.at m (.bl c)
      | _ => exact oth fun i j h => by simp at h
    | _ => exact oth fun i j h => by simp at h
  | le =>
    cases dx with
    | int i =>
      cases dy with
      | int j =>
        simp only [cmpD, cmpI, Option.some.injEq] at e
        cases (show x = .int i from tx)
        cases (show y = .int j from ty)
        refine op_le pins s σ H _ _ v u Q I rx ry ⟨i, j, rfl, rfl, ?_⟩
        show Q (.bl (decide (i ≤ j))) H
        rw [show decide (i ≤ j) = c from e]
        exact out.at m (.bl c)
      | _ => simp [cmpD] at e
    | _ => simp [cmpD] at e
  | gt =>
    cases dx with
    | int i =>
      cases dy with
      | int j =>
        simp only [cmpD, cmpI, Option.some.injEq] at e
        cases (show x = .int i from tx)
        cases (show y = .int j from ty)
        refine op_gt pins s σ H _ _ v u Q I rx ry ⟨i, j, rfl, rfl, ?_⟩
        show Q (.bl (decide (j < i))) H
        rw [show decide (j < i) = c from e]
        exact out.at m (.bl c)
      | _ => simp [cmpD] at e
    | _ => simp [cmpD] at e
  | ge =>
    cases dx with
    | int i =>
      cases dy with
      | int j =>
        simp only [cmpD, cmpI, Option.some.injEq] at e
        cases (show x = .int i from tx)
        cases (show y = .int j from ty)
        refine op_ge pins s σ H _ _ v u Q I rx ry ⟨i, j, rfl, rfl, ?_⟩
        show Q (.bl (decide (j ≤ i))) H
        rw [show decide (j ≤ i) = c from e]
        exact out.at m (.bl c)
      | _ => simp [cmpD] at e
    | _ => simp [cmpD] at e
end
end Cs
set_option Elab.async false
set_option linter.all false
set_option autoImplicit false
set_option maxRecDepth 100000
set_option maxHeartbeats 1000000
/-! Items, slices, displays. -/
namespace Cs
open PySem L2 PyProof.Rows
theorem idx_eq {α : Type} (xs : List α) (i : Int) : idx xs i = atI xs i := rfl
theorem cut_eq (xs : List V) (lo hi : Option Int) : cut xs lo hi = cutV xs lo hi := by
  have e : ∀ n d o, clamp n d o = HT.sIx n d o := fun n d o => by cases o <;> rfl
  unfold cut cutV
  rw [e, e]
section
variable {G : PySem.W.Frag} {w : World} {f : Fm} {M : Mem} {H : Hp} {C : Addr → Prop}
theorem DRs.cut {vs : List V} {ds : List PyData} (r : DRs G w H C vs ds) (lo hi : Option Int) : DRs G w H C (Cs.cut vs lo hi) (Cs.cut ds lo hi) := by
  unfold Cs.cut
  rw [r.length]
  exact (r.drop _).take _
theorem DRs.idx {vs : List V} {ds : List PyData} {i : Int} {d : PyData} (r : DRs G w H C vs ds) (h : Cs.idx ds i = some d) : ∃ v, atI vs i = some v ∧ DR G w H C v d := by
  unfold Cs.idx at h
  obtain ⟨k, e1, e2⟩ := Option.bind_eq_some_iff.mp h
  obtain ⟨v, e3, e4⟩ := r.get e2
  refine ⟨v, ?_, e4⟩
  unfold atI
  rw [r.length]
  exact Option.bind_eq_some_iff.mpr ⟨k, e1, e3⟩
theorem RWs.idx {vs : List V} {ds : List W} {i : Int} {d : W} (r : RWs G w f M H vs ds) (h : Cs.idx ds i = some d) : ∃ v, atI vs i = some v ∧ RW G w f M H v d := by
  unfold Cs.idx at h
  obtain ⟨k, e1, e2⟩ := Option.bind_eq_some_iff.mp h
  obtain ⟨v, e3, e4⟩ := r.get e2
  refine ⟨v, ?_, e4⟩
  unfold atI
  rw [r.length]
  exact Option.bind_eq_some_iff.mpr ⟨k, e1, e3⟩
end
section
variable {α : Type} {G : PySem.W.Frag} {w : World} {b : Nat} {f : Fm} {M : Mem} {H : Hp} {ok : α → (Fm) → Mem → Hp → Prop} {er : Exc → (Fm) → Mem → Hp → Prop}
theorem Then.look {n : Nat} {g : Cell → K α} (h : Then G w b f M H ((look n).bnd g M) ok er) : ∃ c, M[n]? = some c ∧ Then G w b f M H (g c M) ok er := by
  unfold Cs.look K.bnd at h
  cases e : M[n]? with
  | none => simp only [e] at h; exact h.elim
  | some c => simp only [e] at h; exact ⟨c, rfl, h⟩
end
section
variable {X : Cx} {Z : WX} {b : Nat} {σV : L2.St}
/-- x[i] -/
theorem x_sub (hu : X.A.units + 100 < cLine) : IxR X (rOp X Z b σV subW) := by
  intro value slice pins s σ H x y v u Q I rx ry ⟨f, M, wx, wy, m, hb, tx, ty, h⟩ hs
  cases wx with
  | d dx =>
    simp only [subW] at h
    obtain ⟨k, ek, h⟩ := h.rd
    have tk := ty.dt m ek
    have tx' : DR X.K X.w H (isC f M) x dx := tx
    cases dx with
    | list xs =>
      cases k with
      | int j =>
        obtain ⟨z, ez, h⟩ := h.opt1
        obtain ⟨d, ed, rfl⟩ := Option.map_eq_some_iff.mp ez
        cases (show y = .int j from tk)
        cases tx' with
        | lst q r =>
          obtain ⟨v', e1, e2⟩ := r.idx ed
          exact ix_list value slice pins s σ H _ _ v u Q I rx ry ⟨_, _, j, v', rfl, rfl, q.sq, e1, h f H .refl m v' e2⟩ hs
      | _ => exact h.elim
    | tuple xs =>
      cases k with
      | int j =>
        obtain ⟨z, ez, h⟩ := h.opt1
        obtain ⟨d, ed, rfl⟩ := Option.map_eq_some_iff.mp ez
        cases (show y = .int j from tk)
        cases tx' with
        | tup q r =>
          obtain ⟨v', e1, e2⟩ := r.idx ed
          exact ix_tup value slice pins s σ H _ _ v u Q I rx ry ⟨_, _, j, v', rfl, rfl, q.sq, e1, h f H .refl m v' e2⟩ hs
      | _ => exact h.elim
    | dict kvs =>
      simp only at h
      split at h
      · rename_i ask
        obtain ⟨z, ez, h⟩ := h.opt1
        obtain ⟨d, ed, rfl⟩ := Option.map_eq_some_iff.mp ez
        cases tx' with
        | dic q r kk =>
          cases rx
          obtain ⟨ep, hr⟩ := q.raw I
          exact tail_any (T := "dict") hr.typeIs slot_dict_getitem.lookup (dict_item I (by omega) hr r.ek kk ask (tk.key m (askOk_def ask).1) ry ed fun t u' vv e1 e2 => ⟨vv, H, I.tok t, e1, h f H .refl m vv e2⟩) hs
      · exact h.elim
    | _ => exact h.elim
  | c n =>
    obtain ⟨hn, rfl⟩ := tx
    cases rx
    simp only [subW] at h
    obtain ⟨c, ec, h⟩ := h.look
    obtain ⟨k, ek, h⟩ := h.rd
    have tk := ty.dt m ek
    have hc := m.cell n c ec
    cases c with
    | lst ws =>
      cases k with
      | int j =>
        obtain ⟨d, ed, h⟩ := h.opt1
        cases (show y = .int j from tk)
        obtain ⟨vs, q, r, _⟩ := hc
        obtain ⟨v', e1, e2⟩ := r.idx ed
        exact ix_list value slice pins s σ H (.ref (f n)) _ (.ref (f n)) u Q I rfl ry ⟨_, _, j, v', rfl, rfl, .inl (.inl q), e1, h f H .refl m v' e2⟩ hs
      | _ => exact h.elim
    | dic kvs =>
      have h' : Then X.K X.w b f M H ((if askOk kvs k then K.opt (dget kvs k) else K.stop) M) (fun z f' M' H' => ∀ v, RW X.K X.w f' M' H' v z → Q v H') (erW X Z σV) := by cases k <;> exact h
      split at h'
      · rename_i ask
        obtain ⟨d, ed, h⟩ := h'.opt1
        obtain ⟨ns, es, ep0, q, r, kk⟩ := hc
        have hd : DcAt X.K H (fun _ => False) (f n) es := ⟨ns, .inl ⟨ep0, q, id⟩⟩
        obtain ⟨ep, hr⟩ := hd.raw I
        exact tail_any (T := "dict") hr.typeIs slot_dict_getitem.lookup (dict_item I (by omega) hr r.ek kk ask (tk.key m (askOk_def ask).1) ry ed fun t u' vv e1 e2 => ⟨vv, H, I.tok t, e1, h f H .refl m vv e2⟩) hs
      · exact h'.elim
    | obj o => cases k <;> exact h.elim
/-- x in d -/
theorem k_in (neg : Bool) (hu : X.A.units + 100 < cLine) : OpR X (compareOp (if neg then .NotIn else .In)) (rOp X Z b σV (kinW neg)) := by
  intro pins s σ H x y v u Q I rx ry ⟨f, M, wx, wy, m, hb, tx, ty, h⟩
  cases wy with
  | d dy => exact h.elim
  | c n =>
    obtain ⟨hn, rfl⟩ := ty
    cases ry
    simp only [kinW] at h
    obtain ⟨c, ec, h⟩ := h.look
    obtain ⟨k, ek, h⟩ := h.rd
    have tk := tx.dt m ek
    have hc := m.cell n c ec
    cases c with
    | lst ws => exact h.elim
    | obj _ => exact h.elim
    | dic kvs =>
      simp only at h
      split at h
      · rename_i ask
        obtain ⟨ns, es, ep0, q, r, kk⟩ := hc
        have hd : DcAt X.K H (fun _ => False) (f n) es := ⟨ns, .inl ⟨ep0, q, id⟩⟩
        obtain ⟨ep, hr⟩ := hd.raw I
        have dk := tk.key m (askOk_def ask).1
        have fin : ∀ t, EP X pins σ Q (.bool (neg != (dget kvs k).isSome)) { s with toks := t } := fun t => ⟨.bl _, H, I.tok t, rfl, h f H .refl m (.bl _) (DR.bl _)⟩
        cases neg with
        | false => exact dict_has I (by omega) ns hr r.ek kk ask dk rx fun t => by have := fin t; simpa using this
        | true => exact dict_hasNot I (by omega) ns hr r.ek kk ask dk rx fun t => by have := fin t; simpa using this
      · exact h.elim
/-- x[lo:hi] -/
def sOp (X : Cx) (b : Nat) (g : PyData → Option PyData) : V → Hp → VK → Prop := fun u H Q => ∃ f M x d, MemOk X.K X.w f M H ∧ b ≤ M.length ∧ DT X.K X.w H (isC f M) u x ∧ g x = some d ∧ outD X b f M H Q d
def slD (lo hi : Option Int) : PyData → Option PyData
  | .list xs => some (.list (cut xs lo hi))
  | .tuple xs => some (.tuple (cut xs lo hi))
  | _ => none
theorem x_slc : L2.SlR X (fun x lo hi H Q => sOp X b (slD lo hi) x H Q) := by
  intro pins s σ H x v vl vu lo hi sl Q I rx hs pl pu ⟨f, M, dx, d, m, hb, tx, e, o⟩
  cases dx with
  | list xs =>
    simp only [slD, Option.some.injEq] at e
    subst e
    obtain ⟨a, vs, rfl, h1, h2⟩ := tx
    exact sl_list pins s σ H _ v vl vu lo hi sl Q I rx hs pl pu ⟨a, vs, rfl, .inl h1, fun p hp => by rw [← cut_eq]; exact o.lst m (h2.cut lo hi) hp⟩
  | tuple xs =>
    simp only [slD, Option.some.injEq] at e
    subst e
    obtain ⟨a, vs, rfl, h1, h2⟩ := tx
    refine sl_tupA pins s σ H _ v vl vu lo hi sl Q I rx hs pl pu ⟨a, vs, rfl, h1, fun hw => ?_, fun _ p hp => by rw [← cut_eq]; exact o.tup m (h2.cut lo hi) hp⟩
    refine o.at m (.tup (m.tpAt h1) ?_)
    have ec : cut vs lo hi = vs := by
      rw [cut_eq]
      unfold cutV
      rw [hw.1, hw.2]
      simp
    have := h2.cut lo hi
    rw [ec] at this
    exact this
  | _ => simp [slD] at e
end
end Cs
set_option Elab.async false
set_option linter.all false
set_option autoImplicit false
set_option maxRecDepth 100000
set_option maxHeartbeats 1000000
/-! Built-in functions. -/
namespace Cs
open PySem L2 PyProof.Rows
def DTs (G : PySem.W.Frag) (w : World) (H : Hp) (C : Addr → Prop) : List V → List PyData → Prop
  | [], [] => True
  | v :: vs, d :: ds => DT G w H C v d ∧ DTs G w H C vs ds
  | _, _ => False
/-- a call with data, a datum comes out -/
def bOp (X : Cx) (b : Nat) (g : List PyData → Option PyData) : List V → Hp → VK → Prop := fun us H Q => ∃ f M xs d, MemOk X.K X.w f M H ∧ b ≤ M.length ∧ DTs X.K X.w H (isC f M) us xs ∧ g xs = some d ∧ outD X b f M H Q d
theorem DTs.one {G : PySem.W.Frag} {w : World} {H : Hp} {C : Addr → Prop} {us : List V} {x : PyData} (h : DTs G w H C us [x]) : ∃ v, us = [v] ∧ DT G w H C v x := by
  cases us with
  | nil => exact h.elim
  | cons v r =>
    cases r with
    | nil => exact ⟨v, rfl, h.1⟩
    | cons _ _ => exact h.2.elim
theorem bls_of {G : PySem.W.Frag} {w : World} {H : Hp} {C : Addr → Prop} : ∀ {vs : List V} {ds : List PyData} {bs : List Bool}, DRs G w H C vs ds → allB ds = some bs → vs = bs.map V.bl
  | _, _, bs, .nil, h => by simp [allB] at h; subst h; rfl
  | _, _, bs, .cons (d := d) hd r, h => by
    cases d with
    | bool c =>
      simp only [allB] at h
      obtain ⟨cs, e, rfl⟩ := Option.map_eq_some_iff.mp h
      cases hd
      rw [bls_of r e]; rfl
    | _ => simp [allB] at h
section
variable {X : Cx} {b : Nat}
theorem b_len : CallR X (.builtin "len") (bOp X b (bltD .len)) := by
  intro pins s σ H us uv Q I r ⟨f, M, xs, d, m, hb, tx, e, o⟩
  cases xs with
  | nil => simp [bltD] at e
  | cons x xs =>
    cases xs with
    | cons _ _ => cases x <;> simp [bltD] at e
    | nil =>
      obtain ⟨v, rfl, tv⟩ := tx.one
      cases x with
      | list ds =>
        simp only [bltD, Option.some.injEq] at e
        subst e
        obtain ⟨a, vs, rfl, h1, h2⟩ := tv
        refine call_len_seq pins s σ H _ uv Q I r ⟨a, vs, rfl, .inl (.inl h1), ?_⟩
        rw [h2.length]
        exact o.at m (.int _)
      | tuple ds =>
        simp only [bltD, Option.some.injEq] at e
        subst e
        obtain ⟨a, vs, rfl, h1, h2⟩ := tv
        refine call_len_seq pins s σ H _ uv Q I r ⟨a, vs, rfl, .inr h1, ?_⟩
        rw [h2.length]
        exact o.at m (.int _)
      | str z =>
        simp only [bltD] at e
        split at e
        · rename_i hz
          simp only [Option.some.injEq] at e
          subst e
          cases (show v = .str z from tv)
          exact call_len_str pins s σ H _ uv Q I r ⟨z, rfl, by rw [top_eq]; exact hz, o.at m (.int _)⟩
        · simp at e
      | dict kvs =>
        simp only [bltD, Option.some.injEq] at e
        subst e
        obtain ⟨a, es, rfl, hd, h2, k⟩ := tv.dict
        obtain ⟨ep, hr⟩ := hd.raw I
        obtain ⟨u, rfl, ru⟩ := vals1 r
        cases ru
        have hl : es.toArray.size = kvs.length := by simp [h2.length]
        have hk := k.len
        have ht : top = 16777216 := rfl
        refine PyProof.Rows.call_len_slot (n := kvs.length) hr.typeIs F.slot_dict_len (fun Q' hq => call_len_raw hd.1 hr (by rw [hl]; exact hq)) (by omega) (by omega) ?_
        exact ⟨.int _, H, I.tok _, ⟨_, rfl⟩, o.at m (.int _)⟩
      | _ => simp [bltD] at e
theorem b_int : CallR X (.type "int") (bOp X b (bltD .int)) := by
  intro pins s σ H us uv Q I r ⟨f, M, xs, d, m, hb, tx, e, o⟩
  cases xs with
  | nil => simp [bltD] at e
  | cons x xs =>
    cases xs with
    | cons _ _ => cases x <;> simp [bltD] at e
    | nil =>
      obtain ⟨v, rfl, tv⟩ := tx.one
      cases x with
      | int i =>
        simp only [bltD, Option.some.injEq] at e
        subst e
        cases (show v = .int i from tv)
        exact call_int1 pins s σ H _ uv Q I r (.inl ⟨i, rfl, o.at m (.int _)⟩)
      | bool c =>
        simp only [bltD, Option.some.injEq] at e
        subst e
        cases (show v = .bl c from tv)
        exact call_int1 pins s σ H _ uv Q I r (.inr ⟨c, rfl, o.at m (.int _)⟩)
      | str a =>
        simp only [bltD] at e
        split at e
        · rename_i hl
          obtain ⟨n, en, rfl⟩ := Option.map_eq_some_iff.mp e
          cases (show v = .str a from tv)
          exact L2.call_int_str pins s σ H _ uv Q I r ⟨a, n, rfl, en, hl, o.at m (.int _)⟩
        · simp at e
      | _ => simp [bltD] at e
theorem b_all (hc : X.calm = true) : CallR X (.builtin "all") (bOp X b (bltD .all)) := by
  intro pins s σ H us uv Q I r ⟨f, M, xs, d, m, hb, tx, e, o⟩
  cases xs with
  | nil => simp [bltD] at e
  | cons x xs =>
    cases xs with
    | cons _ _ => cases x <;> simp [bltD] at e
    | nil =>
      obtain ⟨v, rfl, tv⟩ := tx.one
      cases x with
      | list ds =>
        simp only [bltD] at e
        obtain ⟨bs, eb, rfl⟩ := Option.map_eq_some_iff.mp e
        obtain ⟨a, vs, rfl, h1, h2⟩ := tv
        exact cr_all hc pins s σ H _ uv Q I r ⟨a, bs, rfl, .inl (by rw [← bls_of h2 eb]; exact h1), o.at m (.bl _)⟩
      | _ => simp [bltD] at e
theorem b_any (hc : X.calm = true) : CallR X (.builtin "any") (bOp X b (bltD .any)) := by
  intro pins s σ H us uv Q I r ⟨f, M, xs, d, m, hb, tx, e, o⟩
  cases xs with
  | nil => simp [bltD] at e
  | cons x xs =>
    cases xs with
    | cons _ _ => cases x <;> simp [bltD] at e
    | nil =>
      obtain ⟨v, rfl, tv⟩ := tx.one
      cases x with
      | list ds =>
        simp only [bltD] at e
        obtain ⟨bs, eb, rfl⟩ := Option.map_eq_some_iff.mp e
        obtain ⟨a, vs, rfl, h1, h2⟩ := tv
        exact cr_any hc pins s σ H _ uv Q I r ⟨a, bs, rfl, .inl (by rw [← bls_of h2 eb]; exact h1), o.at m (.bl _)⟩
      | _ => simp [bltD] at e
end
end Cs
set_option Elab.async false
set_option linter.all false
set_option autoImplicit false
set_option maxRecDepth 100000
set_option maxHeartbeats 1000000
/-! sorted(..). -/
namespace Cs
open PySem L2 PyProof.Rows
open PySem.W (AllAlike Sortable EachIs dataLe)
theorem sortOk_def {xs : List PyData} (h : sortOk xs = true) : AllAlike (xs.map id) ∧ (∀ x ∈ xs, fine 60 x = true) ∧ Sortable (xs.map id) ∧ xs.length ≤ top := by
  unfold sortOk at h
  simp only [Bool.and_eq_true] at h
  obtain ⟨⟨⟨h1, h2⟩, h3⟩, h4⟩ := h
  rw [List.map_id]
  refine ⟨fun d hd d' hd' => List.all_eq_true.mp (List.all_eq_true.mp h1 d hd) d' hd', fun x hx => List.all_eq_true.mp h2 x hx, ?_, of_decide_eq_true h4⟩
  rw [Bool.or_eq_true] at h3
  rcases h3 with h3 | h3
  · refine .inl fun d hd => ?_
    have q := List.all_eq_true.mp h3 d hd
    cases d with
    | tuple ys =>
      cases ys with
      | nil => simp at q
      | cons y r => exact ⟨y, r, rfl⟩
    | _ => simp at q
  · refine .inr fun d hd => ?_
    have q := List.all_eq_true.mp h3 d hd
    cases d with
    | none => simp at q
    | tuple ys => simp at q
    | _ => exact ⟨by simp, by simp⟩
mutual
theorem reads_lt {h : Heap} : ∀ {d : PyData} {v : Value} {as : List Addr}, Reads h v d as → ∀ x ∈ as, x < h.objs.size
  | .none, _, _, .none, x, hx => by simp at hx
  | .bool _, _, _, .bool _, x, hx => by simp at hx
  | .int _, _, _, .int _ _, x, hx => by simp at hx
  | .str _, _, _, .str _ _, x, hx => by simp at hx
  | .list _, _, _, .list h1 _ _ h4, x, hx => by
    rcases List.mem_cons.mp hx with rfl | hx
    · exact Heap.lt_size h1
    · exact readsAll_lt h4 x hx
  | .tuple _, _, _, .tuple _ _ _ h4, x, hx => readsAll_lt h4 x hx
  | .dict kvs, _, _, .dict h1 _ _ h4 h5, x, hx => by
    rcases List.mem_cons.mp hx with rfl | hx
    · exact Heap.lt_size h1
    · rcases List.mem_append.mp hx with hx | hx
      · exact readsK_lt kvs h4 x hx
      · exact readsV_lt kvs h5 x hx
theorem readsAll_lt {h : Heap} : ∀ {ds : List PyData} {vs : List Value} {as : List Addr}, ReadsAll h vs ds as → ∀ x ∈ as, x < h.objs.size
  | [], _, _, .nil, x, hx => by simp at hx
  | _ :: _, _, _, .cons h1 h2, x, hx => by
    rcases List.mem_append.mp hx with hx | hx
    · exact reads_lt h1 x hx
    · exact readsAll_lt h2 x hx
theorem readsK_lt {h : Heap} : ∀ (kvs : List (PyData × PyData)) {vs : List Value} {as : List Addr}, ReadsAll h vs (kvs.map (·.1)) as → ∀ x ∈ as, x < h.objs.size
  | [], _, _, .nil, x, hx => by simp at hx
  | (k, v) :: kvs, _, _, .cons h1 h2, x, hx => by
    rcases List.mem_append.mp hx with hx | hx
    · exact reads_lt h1 x hx
    · exact readsK_lt kvs h2 x hx
theorem readsV_lt {h : Heap} : ∀ (kvs : List (PyData × PyData)) {vs : List Value} {as : List Addr}, ReadsAll h vs (kvs.map (·.2)) as → ∀ x ∈ as, x < h.objs.size
  | [], _, _, .nil, x, hx => by simp at hx
  | (k, v) :: kvs, _, _, .cons h1 h2, x, hx => by
    rcases List.mem_append.mp hx with hx | hx
    · exact reads_lt h1 x hx
    · exact readsV_lt kvs h2 x hx
end
/-- the value, as it stands in a state, is the datum -/
def IsD (X : Cx) (H : Hp) (C : Addr → Prop) (u : Value) (d : PyData) : Prop := ∃ v, RelV v u ∧ DR X.K X.w H C v d
theorem each_vals {X : Cx} {H : Hp} {C : Addr → Prop} : ∀ {us : List Value} {ds : List PyData}, EachIs (IsD X H C) us ds → ∃ vs, Vals vs us ∧ DRs X.K X.w H C vs ds
  | _, _, .nil => ⟨[], .nil, .nil⟩
  | _, _, .cons ⟨v, h1, h2⟩ t => let ⟨vs, h3, h4⟩ := each_vals t; ⟨v :: vs, .cons h1 h3, .cons h2 h4⟩
theorem vals_each {X : Cx} {H : Hp} {C : Addr → Prop} : ∀ {vs : List V} {us : List Value} {ds : List PyData}, Vals vs us → DRs X.K X.w H C vs ds → EachIs (IsD X H C) us ds
  | _, _, _, .nil, .nil => .nil
  | _, _, _, .cons r t, .cons d s => .cons ⟨_, r, d⟩ (vals_each t s)
section
variable {X : Cx} {b : Nat}
/-- sorted(x), by how x is collected -/
theorem sorted_core {pins : List (Addr × Obj)} {σ : L2.St} {H : Hp} {s : Shared} {C : Addr → Prop} {v : Value} {ds : List PyData} {Q : VK} (I : Inv X pins σ H s) (hu : X.A.units + 100 < cLine) (hs : sortOk ds = true)
    (hcol : ∀ (R : List Value → Shared → Prop), (∀ s1 acc es, (∀ b o, s.heap.get? b = some o → s1.heap.get? b = some o) → s1.gens = s.gens → s1.os = s.os → EachIs (IsD X H C) acc es → es.Perm ds → (sortD es = sortD ds) → R acc s1) → wpAny (model X.prog X.w) X.A.in1 (collect v) R X.xe s)
    (out : ∀ p vs, H p = none → DRs X.K X.w H C vs (sortD ds) → Q (.ref p) (upd H p (.lst vs))) : wpAny (model X.prog X.w) X.A (call (.builtin "sorted") [v]) (EP X pins σ Q) X.xe s := by
  refine Calls.call_function_entry kind_sorted plain_sorted entry_sorted (args_sorted1 _) ?_
  unfold Builtin.«sorted»
  refine wpAny_bind (m := checkCount "sorted" 1 1 _) (wpAny_pure ?_)
  refine wpAny_bind (hcol _ fun s1 acc es hk hg ho he hp hsort => ?_)
  obtain ⟨h1, h2, h3, h4⟩ := sortOk_def hs
  have mem : ∀ {x}, x ∈ es ↔ x ∈ ds := fun {x} => hp.mem_iff
  have e1 : AllAlike (es.map id) := fun d hd d' hd' => h1 d (by rw [List.map_id] at hd ⊢; exact mem.1 hd) d' (by rw [List.map_id] at hd' ⊢; exact mem.1 hd')
  have e3 : Sortable (es.map id) := by
    rw [List.map_id] at h3 ⊢
    exact h3.imp (fun z d hd => z d (mem.1 hd)) fun z d hd => z d (mem.1 hd)
  have el : es.length ≤ top := by rw [hp.length_eq]; exact h4
  have al : acc.length = es.length := he.length
  have I1 : Inv X pins σ H { s with heap := s1.heap, gens := s1.gens, drawn := s1.drawn, toks := s1.toks } := I.call (ch := []) (Un.kept hk) (I.hok.kept hk) (by rw [hg]; exact I.bare) (fun _ z => nomatch z)
  have es1 : s1 = { s with heap := s1.heap, gens := s1.gens, drawn := s1.drawn, toks := s1.toks } := by
    cases s1; cases s; cases ho; rfl
  refine wpAny_bind (wpAny_newList ?_ (by rw [top_eq, al]; exact el))
  have hoL : (s1.heap.push (seqObj "list" acc.toArray 0)).get? s1.heap.objs.size = some (seqObj "list" acc.toArray 0) := Heap.get?_push_size _ rfl
  have I2 : Inv X pins σ H { s with heap := s1.heap.push (seqObj "list" acc.toArray 0), gens := s1.gens, drawn := s1.drawn, toks := s1.toks } := I1.kept (t' := s1.toks) fun b o e => Heap.get?_push_of_some _ e
  have er : EachIs (fun v d => ∃ as, Reads (s1.heap.push (seqObj "list" acc.toArray 0)) v (id d) as ∧ s1.heap.objs.size ∉ as) acc es := he.mono fun u d ⟨kv, r1, r2⟩ => by
    obtain ⟨as, q⟩ := r2.reads I1 r1
    have q' : Reads s1.heap u d as := q
    exact ⟨as, PyProof.Rows.Reads.keeps (fun _ _ z => Heap.get?_push_of_some _ z) q', fun hm => Nat.lt_irrefl _ (reads_lt q' _ hm)⟩
  refine wpAny_bind (wpAny_holding (PySem.W.list_sort_data (β := PyData) (enc := id) (R := IsD X H C) (s := { s1 with heap := s1.heap.push (seqObj "list" acc.toArray 0) }) hoL he er e1 e3 (by rw [top_eq]; exact el)
    (fun d hd => by have := (fine_ok 60 d (h2 d (mem.1 hd))).2; show X.A.units + 1 + 1 + d.depth < cLine; omega) fun out' ho' he' => ?_))
  obtain ⟨c, hc⟩ := sortedHeap_at (vs := acc) (out := out'.toArray) hoL
  obtain ⟨vs, r1, r2⟩ := each_vals he'
  have hn : H s1.heap.objs.size = none := I1.hok.fresh (Nat.le_refl _)
  have hl : vs.length ≤ sizeLine := by rw [r1.length, ho', top_eq]; exact el
  have kk : ∀ b o, s1.heap.get? b = some o → (sortedHeap (s1.heap.push (seqObj "list" acc.toArray 0)) s1.heap.objs.size acc out'.toArray).get? b = some o := fun b o e => by
    have hlt := Heap.lt_size e
    rw [sortedHeap_old (Nat.ne_of_lt hlt) (by rw [size_push']; exact Nat.lt_succ_of_lt hlt)]
    exact Heap.get?_push_of_some _ e
  have J : Inv X pins σ (upd H s1.heap.objs.size (.lst vs)) { s with heap := sortedHeap (s1.heap.push (seqObj "list" acc.toArray 0)) s1.heap.objs.size acc out'.toArray, gens := s1.gens, drawn := s1.drawn, toks := s1.toks } :=
    I1.laid (t' := s1.toks) kk (Nat.le_refl _) ⟨hl, out', c, r1, hc⟩
  have e : es.mergeSort (dataLe false id) = sortD ds := hsort
  rw [e] at r2
  refine wpAny_pure ⟨_, rfl, .ref s1.heap.objs.size, _, ?_, rfl, out _ vs hn r2⟩
  rw [es1] at J ⊢
  exact J
end
end Cs
set_option Elab.async false
set_option linter.all false
set_option autoImplicit false
set_option maxRecDepth 100000
set_option maxHeartbeats 1000000
/-! sorted, list, tuple. -/
namespace Cs
open PySem L2 PyProof.Rows
open PySem.W (EachIs)
theorem one_arg {xs : List PyData} {f : Bl} {d : PyData} (hf : f ≠ .max) (e : bltD f xs = some d) : ∃ x, xs = [x] := by
  cases xs with
  | nil => cases f <;> simp [bltD] at e
  | cons x xs =>
    cases xs with
    | nil => exact ⟨x, rfl⟩
    | cons y ys => cases f <;> first | (exact absurd rfl hf) | (cases x <;> simp [bltD] at e)
/-- the items that a walk over entries gave, in a list -/
theorem each_of_at {α β : Type} {R : α → β → Prop} : ∀ {as : List α} {bs : List β}, as.length = bs.length → (∀ (i : Nat) (a : α) (b : β), as[i]? = some a → bs[i]? = some b → R a b) → EachIs R as bs
  | [], [], _, _ => .nil
  | a :: as, b :: bs, hl, h => .cons (h 0 a b rfl rfl) (each_of_at (by simpa using hl) fun i x y e1 e2 => h (i + 1) x y (by simpa using e1) (by simpa using e2))
  | [], _ :: _, hl, _ => by simp at hl
  | _ :: _, [], hl, _ => by simp at hl
section
variable {X : Cx} {b : Nat}
theorem keys_each {H : Hp} {C : Addr → Prop} {β : Type} {R : V → β → Prop} : ∀ {es : List DictEntry} {kvs : List (PyData × β)}, EK X.K X.w H C R es kvs → EachIs (IsD X H C) (es.map (·.key)) (kvs.map (·.1))
  | _, _, .nil => .nil
  | _, _, .cons _ b _ d _ r => .cons ⟨_, b, d⟩ (keys_each r)
theorem key_items {acc : Array Value} {es : List DictEntry} (h : ItemsOf (fun i v => ∃ hi : i < es.toArray.size, v = es.toArray[i].key) acc es.toArray.size) : acc.toList = es.map (·.key) := by
  refine List.ext_getElem? fun i => ?_
  by_cases hi : i < acc.size
  · have q := h.2 i acc[i] (Array.getElem?_eq_getElem hi)
    obtain ⟨hj, e⟩ := q
    rw [Array.getElem?_toList, Array.getElem?_eq_getElem hi, e, List.getElem?_map]
    simp at hj
    rw [List.getElem?_eq_getElem hj]
    simp
  · have hl : acc.size = es.length := by simpa using h.1
    rw [List.getElem?_eq_none (by simpa using hi), List.getElem?_eq_none (by simp; omega)]
theorem b_sorted (hc : X.calm = true) (hu : X.A.units + 100 < cLine) : CallR X (.builtin "sorted") (bOp X b (bltD .sorted)) := by
  intro pins s σ H us uv Q I r ⟨f, M, xs, d, m, hb, tx, e, o⟩
  obtain ⟨x, rfl⟩ := one_arg (by intro h; cases h) e
  obtain ⟨v, rfl, tv⟩ := tx.one
  cases x with
  | list ds =>
    simp only [bltD] at e
    split at e
    · rename_i hs
      simp only [Option.some.injEq] at e
      subst e
      obtain ⟨a, vs, rfl, h1, h2⟩ := tv
      obtain ⟨u, rfl, ru⟩ := vals1 r
      cases ru
      obtain ⟨its, n, rv, hl, ho⟩ := rd_lst I h1
      refine sorted_core I hu hs (fun R hR => collect_list (vs := its) ⟨_, ho, rfl, n, rfl⟩ (hR _ its ds (fun b ob q => ?_) rfl rfl (vals_each rv h2) (.refl _) rfl) (by rw [← rv.length]; exact hl)) fun p ws hp hd => o.lst m hd hp
      have hlt := Heap.lt_size q
      show ((s.heap.push (seqObj "list" #[] 0)).update s.heap.objs.size _).get? b = some ob
      rw [Heap.get?_update_ne _ _ _ _ (Nat.ne_of_lt hlt)]
      exact Heap.get?_push_of_some _ q
    · simp at e
  | dict kvs =>
    simp only [bltD] at e
    split at e
    · rename_i hs
      simp only [Option.some.injEq] at e
      subst e
      obtain ⟨a, es, rfl, hd, h2, k⟩ := tv.dict
      obtain ⟨ep, hr⟩ := hd.raw I
      obtain ⟨u, rfl, ru⟩ := vals1 r
      cases ru
      have hz : es.toArray.size ≤ sizeLine := by rw [top_eq]; simpa [h2.length] using k.len
      refine sorted_core I hu hs (fun R hR => PySem.W.kdu_collect (A := X.A.in1) (KdlSrc.rawDict hd.1) (I.ok.hd hc) hr hz fun h' tk acc hk hacc => ?_) fun p ws hp hd => o.lst m hd hp
      refine hR _ _ (kvs.map (·.1)) hk rfl rfl ?_ (.refl _) rfl
      rw [key_items hacc]
      exact keys_each h2
    · simp at e
  | _ => simp [bltD] at e
theorem b_tup : CallR X (.type "tuple") (bOp X b (bltD .tup)) := by
  intro pins s σ H us uv Q I r ⟨f, M, xs, d, m, hb, tx, e, o⟩
  obtain ⟨x, rfl⟩ := one_arg (by intro h; cases h) e
  obtain ⟨v, rfl, tv⟩ := tx.one
  cases x with
  | list ds =>
    simp only [bltD, Option.some.injEq] at e
    subst e
    obtain ⟨a, vs, rfl, h1, h2⟩ := tv
    exact call_tuple_of pins s σ H _ uv Q I r ⟨a, vs, rfl, .inl ⟨.inl h1, fun l hl => o.tup m h2 hl⟩⟩
  | tuple ds =>
    simp only [bltD, Option.some.injEq] at e
    subst e
    obtain ⟨a, vs, rfl, h1, h2⟩ := tv
    exact call_tuple_of pins s σ H _ uv Q I r ⟨a, vs, rfl, .inr ⟨h1, o.at m (.tup (m.tpAt h1) h2)⟩⟩
  | _ => simp [bltD] at e
theorem b_lst (hc : X.calm = true) : CallR X (.type "list") (bOp X b (bltD .lst)) := by
  intro pins s σ H us uv Q I r ⟨f, M, xs, d, m, hb, tx, e, o⟩
  obtain ⟨x, rfl⟩ := one_arg (by intro h; cases h) e
  obtain ⟨v, rfl, tv⟩ := tx.one
  cases x with
  | list ds =>
    simp only [bltD, Option.some.injEq] at e
    subst e
    obtain ⟨a, vs, rfl, h1, h2⟩ := tv
    exact call_list_of pins s σ H _ uv Q I r ⟨a, vs, rfl, .inl (.inl h1), fun l hl => o.lst m h2 hl⟩
  | tuple ds =>
    simp only [bltD, Option.some.injEq] at e
    subst e
    obtain ⟨a, vs, rfl, h1, h2⟩ := tv
    exact call_list_of pins s σ H _ uv Q I r ⟨a, vs, rfl, .inr h1, fun l hl => o.lst m h2 hl⟩
  | dict kvs =>
    simp only [bltD, Option.some.injEq] at e
    subst e
    obtain ⟨a, es, rfl, hd, h2, k⟩ := tv.dict
    obtain ⟨ep, hr⟩ := hd.raw I
    obtain ⟨u, rfl, ru⟩ := vals1 r
    cases ru
    have hz : es.toArray.size ≤ sizeLine := by rw [top_eq]; simpa [h2.length] using k.len
    refine PySem.W.kdl_call (KdlSrc.rawDict hd.1) (I.ok.hd hc) hr hz fun h' tk acc' c' hk hl hacc => ?_
    obtain ⟨vs, r1, r2⟩ := each_vals (keys_each (X := X) h2)
    rw [← key_items hacc] at r1
    have hn : H s.heap.objs.size = none := I.hok.fresh (Nat.le_refl _)
    refine ⟨.ref s.heap.objs.size, upd H s.heap.objs.size (.lst vs), I.laid (t' := tk) hk (Nat.le_refl _) ⟨?_, acc'.toList, c', r1, by simpa using hl⟩, rfl, o.lst m r2 hn⟩
    rw [r1.length, Array.length_toList, hacc.1]
    exact hz
  | _ => simp [bltD] at e
end
end Cs
set_option Elab.async false
set_option linter.all false
set_option autoImplicit false
set_option maxRecDepth 100000
set_option maxHeartbeats 1000000
/-! Methods of lists and dicts; x[i] = y. -/
namespace Cs
open PySem L2 PyProof.Rows
/-- a method by values -/
def rM (X : Cx) (Z : WX) (b : Nat) (σV : L2.St) (g : W → List W → K W) : V → List V → Hp → VK → Prop := fun u vs H Q => ∃ f M x ys, MemOk X.K X.w f M H ∧ b ≤ M.length ∧ RW X.K X.w f M H u x ∧ RWs X.K X.w f M H vs ys ∧
  Then X.K X.w b f M H (g x ys M) (fun z f' M' H' => ∀ v, RW X.K X.w f' M' H' v z → Q v H') (erW X Z σV)
theorem RWs.one {G : PySem.W.Frag} {w : World} {f : Fm} {M : Mem} {H : Hp} {vs : List V} {y : W} (h : RWs G w f M H vs [y]) : ∃ v, vs = [v] ∧ RW G w f M H v y := by
  cases vs with
  | nil => exact h.elim
  | cons v r =>
    cases r with
    | nil => exact ⟨v, rfl, h.1⟩
    | cons _ _ => exact h.2.elim
theorem RWs.zero {G : PySem.W.Frag} {w : World} {f : Fm} {M : Mem} {H : Hp} {vs : List V} (h : RWs G w f M H vs []) : vs = [] := by
  cases vs with
  | nil => rfl
  | cons v r => exact h.elim
theorem mayPut_refs {b n : Nat} {y : W} (h : mayPut b n y = true) : ∀ r ∈ y.refs, b ≤ n := by
  cases y with
  | d x => intro r hr; simp [W.refs] at hr
  | c k => intro r _; exact of_decide_eq_true h
section
variable {α : Type} {G : PySem.W.Frag} {w : World} {b : Nat} {f : Fm} {M : Mem} {H : Hp} {ok : α → (Fm) → Mem → Hp → Prop} {er : Exc → (Fm) → Mem → Hp → Prop}
theorem Then.put {n : Nat} {c : Cell} {a : α} (h : Then G w b f M H (((Cs.put n c).bnd fun _ => K.pur a) M) ok er) : ∀ f' H', Ext b f M H f' (M.set n c) H' → MemOk G w f' (M.set n c) H' → ok a f' (M.set n c) H' := h
end
section
variable {X : Cx} {Z : WX} {b : Nat} {σV : L2.St}
theorem m_append : MtR X "list.append" (rM X Z b σV (methW b .append)) := by
  intro pins s σ H u vs v us Q I ru rvs ⟨f, M, x, ys, m, hb, rx, ry, h⟩
  cases ys with
  | nil => exact h.elim
  | cons y r =>
    cases r with
    | cons _ _ => exact h.elim
    | nil =>
      obtain ⟨v1, rfl, ry1⟩ := ry.one
      cases x with
      | d _ => exact h.elim
      | c n =>
        simp only [methW] at h
        split at h
        · rename_i hmp
          obtain ⟨c, ec, h⟩ := h.look
          have hn : n < M.length := (List.getElem?_eq_some_iff.mp ec).1
          have hc := m.cell n c ec
          cases c with
          | dic _ => exact h.elim
          | obj _ => exact h.elim
          | lst ws =>
            simp only at h
            split at h
            · rename_i hl
              have h := h.put
              obtain ⟨xs, q, rr, _⟩ := hc
              obtain ⟨_, rfl⟩ := rx
              obtain ⟨m', x'⟩ := m.write (b := b) (n := n) (c := .lst (ws ++ [y])) (o := .lst (xs ++ [v1])) hn (fun c₀ e r hr => by
                rw [ec] at e; cases e
                simp only [Cell.refs, List.flatMap_append, List.mem_append] at hr ⊢
                rcases hr with hr | hr
                · exact .inl hr
                · right
                  simp at hr
                  exact mayPut_refs hmp r hr) (fun M' H' x' e => ⟨_, e, RWs.append (rr.ext x') ⟨ry1.ext x', trivial⟩, by simp; omega⟩)
              exact mt_append pins s σ H _ _ v us Q I ru rvs ⟨f n, xs, v1, rfl, rfl, q, by rw [top_eq, rr.length]; exact hl, h f _ x' m' .non .non⟩
            · exact h.elim
        · exact h.elim
theorem m_pop : MtR X "list.pop" (rM X Z b σV (methW b .pop)) := by
  intro pins s σ H u vs v us Q I ru rvs ⟨f, M, x, ys, m, hb, rx, ry, h⟩
  cases ys with
  | cons _ _ => exact h.elim
  | nil =>
    have := ry.zero
    subst this
    cases x with
    | d _ => exact h.elim
    | c n =>
      simp only [methW] at h
      obtain ⟨c, ec, h⟩ := h.look
      have hn : n < M.length := (List.getElem?_eq_some_iff.mp ec).1
      have hc := m.cell n c ec
      cases c with
      | dic _ => exact h.elim
      | obj _ => exact h.elim
      | lst ws =>
        cases hg : ws.getLast? with
        | none => simp only [hg] at h; exact h.elim
        | some y =>
          simp only [hg] at h
          have h := h.put
          obtain ⟨xs, q, rr, hl⟩ := hc
          obtain ⟨_, rfl⟩ := rx
          have e1 : ws[ws.length - 1]? = some y := by rw [← hg, List.getLast?_eq_getElem?]
          obtain ⟨v1, e2, r1⟩ := rr.get e1
          obtain ⟨m', x'⟩ := m.write (b := b) (n := n) (c := .lst ws.dropLast) (o := .lst xs.dropLast) hn (fun c₀ e r hr => by
            rw [ec] at e; cases e
            left
            simp only [Cell.refs, List.mem_flatMap] at hr ⊢
            obtain ⟨z, hz, hr⟩ := hr
            exact ⟨z, (List.dropLast_sublist ws).subset hz, hr⟩) (fun M' H' x' e => ⟨_, e, (rr.ext x').dropLast, by simp; omega⟩)
          exact mt_pop pins s σ H _ _ v us Q I ru rvs ⟨f n, xs, v1, rfl, rfl, q, by rw [rr.length]; exact e2, h f _ x' m' v1 (r1.ext x')⟩
/-- d.get(x), d.get(x, z) by its built-in -/
theorem dict_get {pins : List (Addr × Obj)} {σ : L2.St} {H : Hp} {s : Shared} {C C' : Addr → Prop} {β : Type} {R : V → β → Prop} {A : Around} {E : Value → Shared → Prop} {a : Addr} {es : List DictEntry} {kvs : List (PyData × β)} {ep : Nat} {x : PyData} {v : V} {u : Value}
    (I : Inv X pins σ H s) (hu : A.units + 20 < cLine) (hm : (a == sysModules) = false) (hr : s.heap.DictRaw a es.toArray ep) (r : EK X.K X.w H C R es kvs) (k : KeysOk kvs) (ask : askOk kvs x = true) (hx : DR X.K X.w H C' v x) (ru : RelV v u) (more : List Value) (z : Value) (hz : (more = [] ∧ z = .none) ∨ more = [z])
    {Q : Value → Shared → Prop} (h : ∀ t u', (match dget kvs x with | some y => ∃ vv, RelV vv u' ∧ R vv y | none => u' = z) → Q u' { s with toks := t }) : wpAny (model X.prog X.w) A (PySem.call (.builtin "dict.get") (.ref a :: u :: more)) Q E s := by
  obtain ⟨hk, ⟨h1, h2⟩ | ⟨h1, h2⟩⟩ := askOk_def ask
  · have ev : v = kV (leaf x) := leaf_rel h1 hx
    subst ev
    have q := r.leafAt h2 h1
    have fin : ∀ t, Q ((valueAt (lps es (kvs.map (·.1))) (leaf x)).getD z) { s with toks := t } := fun t => h t _ (by
      cases hg : dget kvs x with
      | none => rw [hg] at q; simp only [q]; rfl
      | some y => rw [hg] at q; obtain ⟨u', vv, e, e1, e2⟩ := q; exact ⟨vv, by rw [e]; exact e1, e2⟩)
    have dd := r.leafDict (P := X.prog) k h2 hr
    rcases hz with ⟨rfl, rfl⟩ | rfl
    · exact call_meetsIn PySem.F.slot_dict_get dd.typeIs PySem.F.entry_dict_get (PySem.F.args_dict_get_2 _ _) (meets_dict_get (mixKind X.prog X.w) a (kV_is ru) hm) ⟨_, dd.mapOf, fin _⟩
    · exact call_meetsIn PySem.F.slot_dict_get dd.typeIs PySem.F.entry_dict_get (PySem.F.args_dict_get_3 _ _ _) (meets_dict_get_default (mixKind X.prog X.w) a (kV_is ru) hm z) ⟨_, dd.mapOf, fin _⟩
  · obtain ⟨ka, rfl⟩ := tup_ref h1 hx
    cases ru
    have q := r.tupAt k.key hk
    have fin : ∀ t, Q (((atKey (tps es (kvs.map (·.1))) (nk x)).map (·.2)).getD z) { s with toks := t } := fun t => h t _ (by
      cases hg : dget kvs x with
      | none => rw [hg] at q; simp only [q]; rfl
      | some y => rw [hg] at q; obtain ⟨_, u', vv, e, e1, e2⟩ := q; exact ⟨vv, by rw [e]; exact e1, e2⟩)
    have dd := r.tupDict I k h2 hr
    have hroom : (nestedKind X.prog X.w).room A.in1 := by show A.units + 1 + 8 < cLine; omega
    rcases hz with ⟨rfl, rfl⟩ | rfl
    · exact call_meetsIn PySem.F.slot_dict_get dd.typeIs PySem.F.entry_dict_get (PySem.F.args_dict_get_2 _ _) (meetsH_dict_get (nestedKind X.prog X.w) a ka hm) ⟨hroom, _, _, tup_is I hk hx rfl, dd, fin _⟩
    · exact call_meetsIn PySem.F.slot_dict_get dd.typeIs PySem.F.entry_dict_get (PySem.F.args_dict_get_3 _ _ _) (meetsH_dict_get_default (nestedKind X.prog X.w) a ka hm z) ⟨hroom, _, _, tup_is I hk hx rfl, dd, fin _⟩
end
end Cs
set_option Elab.async false
set_option linter.all false
set_option autoImplicit false
set_option maxRecDepth 100000
set_option maxHeartbeats 1000000
/-! get, index; x[i] = y; a method's call. -/
namespace Cs
open PySem L2 PyProof.Rows
section
variable {X : Cx} {Z : WX} {b : Nat} {σV : L2.St}
theorem m_get (hu : X.A.units + 100 < cLine) : MtR X "dict.get" (rM X Z b σV (methW b .get)) := by
  intro pins s σ H u vs v us Q I ru rvs ⟨f, M, x, ys, m, hb, rx, ry, h⟩
  cases ys with
  | nil => exact h.elim
  | cons y r =>
    simp only [methW] at h
    cases vs with
    | nil => exact ry.elim
    | cons v1 vr =>
      cases rvs with
      | cons q1 qr =>
        rename_i u1 ur
        obtain ⟨ry1, ryr⟩ := ry
        obtain ⟨k, ek, h⟩ := h.rd
        have tk := ry1.dt m ek
        -- the default
        have hd : ∃ z zv zu, (ur = [] ∧ zu = Value.none ∨ ur = [zu]) ∧ RelV zv zu ∧ RW X.K X.w f M H zv z ∧ Then X.K X.w b f M H ((match x with
            | .c n => (look n).bnd fun c => match c with
              | .dic kvs => if askOk kvs k then K.pur ((dget kvs k).getD z) else K.stop
              | .lst _ => K.stop
              | .obj _ => K.stop
            | .d (.dict kvs) => if askOk kvs k then K.pur (((dget kvs k).map W.d).getD z) else K.stop
            | .d _ => K.stop) M) (fun z f' M' H' => ∀ v, RW X.K X.w f' M' H' v z → Q v H') (erW X Z σV) := by
          cases r with
          | nil =>
            have e : vr = [] := RWs.zero ryr
            subst e
            cases qr
            exact ⟨.d .none, .non, .none, .inl ⟨rfl, rfl⟩, rfl, .non, h⟩
          | cons z r2 =>
            cases r2 with
            | cons _ _ => exact h.elim
            | nil =>
              obtain ⟨zv, rfl, rz⟩ := RWs.one ryr
              cases qr with
              | cons q2 q3 =>
                cases q3
                exact ⟨z, zv, _, .inr rfl, q2, rz, h⟩
        obtain ⟨z, zv, zu, hur, rzu, rz, h⟩ := hd
        cases x with
        | c n =>
          obtain ⟨c, ec, h⟩ := h.look
          have hc := m.cell n c ec
          cases c with
          | lst _ => exact h.elim
          | obj _ => exact h.elim
          | dic kvs =>
            simp only at h
            split at h
            · rename_i ask
              obtain ⟨ns, es, ep0, q, rr, kk⟩ := hc
              obtain ⟨hn, rfl⟩ := rx
              cases ru
              have hd : DcAt X.K H (fun _ => False) (f n) es := ⟨ns, .inl ⟨ep0, q, id⟩⟩
              obtain ⟨ep, hr⟩ := hd.raw I
              refine dict_get I (by omega) ns hr rr.ek kk ask (tk.key m (askOk_def ask).1) q1 ur zu hur fun t u' hu' => ?_
              have h' := h f H .refl m
              cases hg : dget kvs k with
              | none => rw [hg] at hu' h'; simp only at hu'; subst hu'; exact ⟨zv, H, I.tok t, rzu, h' zv rz⟩
              | some y => rw [hg] at hu' h'; obtain ⟨vv, e1, e2⟩ := hu'; exact ⟨vv, H, I.tok t, e1, h' vv e2⟩
            · exact h.elim
        | d dx =>
          have rx' : DR X.K X.w H (isC f M) u dx := rx
          cases rx' with
          | @dic a es kvs hd rr kk =>
            simp only at h
            split at h
            · rename_i ask
              cases ru
              obtain ⟨ep, hr⟩ := hd.raw I
              refine dict_get I (by omega) hd.1 hr rr.ek kk ask (tk.key m (askOk_def ask).1) q1 ur zu hur fun t u' hu' => ?_
              have h' := h f H .refl m
              cases hg : dget kvs k with
              | none => rw [hg] at hu' h'; simp only at hu'; subst hu'; exact ⟨zv, H, I.tok t, rzu, h' zv rz⟩
              | some y => rw [hg] at hu' h'; obtain ⟨vv, e1, e2⟩ := hu'; exact ⟨vv, H, I.tok t, e1, h' vv e2⟩
            · exact h.elim
          | _ => exact h.elim
theorem DRs.strs {K : PySem.W.Frag} {w : World} {H : Hp} {C : Addr → Prop} : ∀ {vs : List V} {ds : List PyData} {ss : List Str}, DRs K w H C vs ds → strsOf ds = some ss → vs = ss.map V.str
  | _, _, ss, .nil, h => by cases h; rfl
  | _, _, ss, .cons (d := d) r rr, h => by
    cases d with
    | str x =>
      obtain ⟨ss', e, rfl⟩ := Option.map_eq_some_iff.mp (show (strsOf _).map (x :: ·) = some ss from h)
      cases r
      rw [DRs.strs rr e]
      rfl
    | _ => cases h
theorem m_join : MtR X "str.join" (rM X Z b σV (methW b .join)) := by
  intro pins s σ H u vs v us Q I ru rvs ⟨f, M, x, ys, m, hb, rx, ry, h⟩
  cases ys with
  | nil => exact h.elim
  | cons y r =>
    cases r with
    | cons _ _ => exact h.elim
    | nil =>
      obtain ⟨v1, rfl, ry1⟩ := ry.one
      cases x with
      | c n => exact h.elim
      | d dx =>
        cases dx with
        | str a =>
          simp only [methW] at h
          obtain ⟨k, ek, h⟩ := h.rd
          have tk := ry1.dt m ek
          obtain ⟨z, ez, h⟩ := h.opt1
          obtain ⟨d, ed, rfl⟩ := Option.map_eq_some_iff.mp ez
          cases k with
          | list ds =>
            obtain ⟨ss, e1, e2⟩ := Option.bind_eq_some_iff.mp (show (strsOf ds).bind (fun ss => if joinOk a ss then some (PyData.str (PySem.Txt.join a ss)) else none) = some d from ed)
            split at e2
            · rename_i ok
              cases e2
              obtain ⟨p, xs, rfl, h3, h4⟩ := tk
              cases (show u = .str a from by cases (show DR X.K X.w H (isC f M) u (.str a) from rx); rfl)
              have ex := h4.strs e1
              subst ex
              exact L2.mt_join pins s σ H _ _ v us Q I ru rvs ⟨a, p, ss, rfl, rfl, .inl (.inl h3), of_decide_eq_true ok, h f H .refl m _ (DR.str _)⟩
            · cases e2
          | _ => cases ed
        | _ => exact h.elim
theorem m_split : MtR X "str.split" (rM X Z b σV (methW b .split)) := by
  intro pins s σ H u vs v us Q I ru rvs ⟨f, M, x, ys, m, hb, rx, ry, h⟩
  cases ys with
  | nil => exact h.elim
  | cons y r =>
    cases r with
    | cons _ _ => exact h.elim
    | nil =>
      obtain ⟨v1, rfl, ry1⟩ := ry.one
      cases x with
      | c n => exact h.elim
      | d dx =>
        cases dx with
        | str a =>
          simp only [methW] at h
          obtain ⟨k, ek, h⟩ := h.rd
          have tk := ry1.dt m ek
          obtain ⟨z, ez, h⟩ := h.opt1
          obtain ⟨d, ed, rfl⟩ := Option.map_eq_some_iff.mp ez
          cases k with
          | str c =>
            have e2 : (if (c.length == 0) = false ∧ a.length + 2 ≤ top then some (PyData.list ((PySem.Txt.split a c).map .str)) else none) = some d := ed
            split at e2
            · rename_i ok
              cases e2
              cases (show u = .str a from by cases (show DR X.K X.w H (isC f M) u (.str a) from rx); rfl)
              cases (show v1 = .str c from tk)
              have o : outD X b f M H Q (.list ((PySem.Txt.split a c).map .str)) := fun f' H' v' x' m' r' => h f' H' x' m' v' r'
              have dr : ∀ l : List Str, DRs X.K X.w H (isC f M) (l.map V.str) (l.map PyData.str) := by
                intro l
                induction l with
                | nil => exact .nil
                | cons z l ih => exact .cons (.str z) ih
              exact L2.mt_split pins s σ H _ _ v us Q I ru rvs ⟨a, c, rfl, rfl, ok.1, ok.2, fun p hp => o.lst m (dr _) hp⟩
            · cases e2
          | _ => cases ed
        | _ => exact h.elim
theorem items_eq {A : Around} {s : Shared} {x : Value} {k : PyData} {bs : List Addr} (rk : Reads s.heap x k bs) (ck : k.canLay0 = true) : ∀ {vs : List Value} {xs : List PyData} {as : List Addr}, ReadsAll s.heap vs xs as → PyData.canLayAll0 xs = true → A.units + 62 < cLine → PyData.depthAll xs ≤ 60 →
    SeqAt.ItemsEq A s vs (xs.map fun z => PyData.eqv z k) x true := by
  intro vs xs as h hc hu hd
  have hl : vs.length = xs.length := by
    have : ∀ {vs : List Value} {xs : List PyData} {as : List Addr}, ReadsAll s.heap vs xs as → vs.length = xs.length := by
      intro vs xs
      induction xs generalizing vs with
      | nil => intro as h; cases h; rfl
      | cons x xs ih => intro as h; cases h with | cons _ t => simp [ih t]
    exact this h
  refine ⟨by simpa using hl, fun j h1 h2 => ?_⟩
  have gen : ∀ {vs : List Value} {xs : List PyData} {as : List Addr} (j : Nat) (h1 : j < vs.length) (h2 : j < xs.length), ReadsAll s.heap vs xs as → PyData.canLayAll0 xs = true → PyData.depthAll xs ≤ 60 → SeqAt.EqAt A s vs[j] x (PyData.eqv xs[j] k) := by
    intro vs xs
    induction xs generalizing vs with
    | nil => intro as j h1 h2; exact absurd h2 (Nat.not_lt_zero _)
    | cons y xs ih =>
      intro as j h1 h2 h hc hd
      cases h with
      | cons r t =>
        simp only [PyData.canLayAll0, Bool.and_eq_true] at hc
        simp only [PyData.depthAll] at hd
        cases j with
        | zero => exact SeqAt.eqAt_reads y k A s _ _ _ _ r rk hc.1 ck (by omega)
        | succ j => exact ih j (by simpa using h1) (by simpa using h2) t hc.2 (by omega)
  have h3 : j < xs.length := by simpa using h2
  have := gen j h1 h3 h hc hd
  simpa using this
theorem m_index (hu : X.A.units + 100 < cLine) {T : String} : ∀ (pins : List (Addr × Obj)) (s : Shared) (σ : L2.St) (H : Hp) (u : V) (vs : List V) (v : Value) (us : List Value) (Q : VK), Inv X pins σ H s → RelV u v → Vals vs us → rM X Z b σV (methW b .index) u vs H Q → s.TypeIs v T → (T = "list" ∨ T = "tuple") →
    wpAny (model X.prog X.w) X.A (PySem.call (.builtin (if T = "list" then "list.index" else "tuple.index")) (v :: us)) (EP X pins σ Q) X.xe s := by
  intro pins s σ H u vs v us Q I ru rvs ⟨f, M, x, ys, m, hb, rx, ry, h⟩ hT hTT
  cases ys with
  | nil => exact h.elim
  | cons y r =>
    cases r with
    | cons _ _ => exact h.elim
    | nil =>
      obtain ⟨v1, rfl, ry1⟩ := ry.one
      obtain ⟨u1, rfl, ru1⟩ := vals1 rvs
      simp only [methW] at h
      obtain ⟨k, ek, h⟩ := h.rd
      obtain ⟨dx, ex, h⟩ := h.rd
      have tk := ry1.dt m ek
      have tx := rx.dt m ex
      obtain ⟨bs, rk⟩ := tk.reads I ru1
      have fin : ∀ (xs : List PyData), Then X.K X.w b f M H ((if fine 60 k && (xs.all (fine 60) && ((xs.any fun z => PyData.eqv z k) && decide (xs.length ≤ top))) then K.pur (W.d (.int ((xs.map fun z => PyData.eqv z k).idxOf true : Nat))) else K.stop) M) (fun z f' M' H' => ∀ v, RW X.K X.w f' M' H' v z → Q v H') (erW X Z σV) →
          fine 60 k = true ∧ xs.all (fine 60) = true ∧ true ∈ (xs.map fun z => PyData.eqv z k) ∧ xs.length ≤ top ∧ ∀ t, EP X pins σ Q (.int ((xs.map fun z => PyData.eqv z k).idxOf true : Nat) t) { s with toks := t + 1 } := fun xs h => by
        split at h
        · rename_i hc
          simp only [Bool.and_eq_true, decide_eq_true_eq] at hc
          obtain ⟨c1, c2, c3, c4⟩ := hc
          refine ⟨c1, c2, ?_, c4, fun t => ⟨.int _, H, I.tok _, ⟨t, rfl⟩, h f H .refl m _ (.int _)⟩⟩
          obtain ⟨z, hz, e⟩ := List.any_eq_true.mp c3
          exact List.mem_map.mpr ⟨z, hz, e⟩
        · exact h.elim
      cases dx with
      | list xs =>
        obtain ⟨c1, c2, c3, c4, fin⟩ := fin xs h
        obtain ⟨a, ws, rfl, h1, h2⟩ := tx
        cases ru
        obtain ⟨its, n, rv, hl, ho⟩ := rd_lst I h1
        have eT : T = "list" := by
          obtain ⟨ob, q1, q2⟩ := hT
          rw [ho] at q1; cases q1
          rcases hTT with e | e
          · exact e
          · subst e; exact absurd (show Value.type "list" = Value.type "tuple" from q2) (by decide)
        subst eT
        rw [if_pos rfl]
        obtain ⟨as, ra⟩ := DRs.reads I h2 rv
        obtain ⟨l1, k1⟩ := fine_ok 60 _ c1
        obtain ⟨l2, k2⟩ := fines_ok 60 _ c2
        refine SeqAt.call_list_index (vs := its) (ks := xs.map fun z => PyData.eqv z k) (k := true) ⟨_, ho, rfl, n, rfl⟩ (items_eq rk l1 ra l2 (by show X.A.units + 1 + 62 < cLine; omega) k2) (by simpa [top_eq] using c4) c3 (fin _)
      | tuple xs =>
        obtain ⟨c1, c2, c3, c4, fin⟩ := fin xs h
        obtain ⟨a, ws, rfl, h1, h2⟩ := tx
        cases ru
        obtain ⟨its, rv, ht, hl⟩ := I.tuple h1
        have eT : T = "tuple" := by
          obtain ⟨o2, p1, p2, _⟩ := id ht
          obtain ⟨ob, q1, q2⟩ := hT
          rw [p1] at q1; cases q1
          rw [p2] at q2
          rcases hTT with e | e
          · subst e; exact absurd q2 (by decide)
          · exact e
        subst eT
        rw [if_neg (by decide)]
        obtain ⟨as, ra⟩ := DRs.reads I h2 rv
        obtain ⟨l1, k1⟩ := fine_ok 60 _ c1
        obtain ⟨l2, k2⟩ := fines_ok 60 _ c2
        refine SeqAt.call_tuple_index (vs := its) (ks := xs.map fun z => PyData.eqv z k) (k := true) ht (items_eq rk l1 ra l2 (by show X.A.units + 1 + 62 < cLine; omega) k2) c3 (fin _)
      | _ => exact h.elim
end
end Cs
set_option Elab.async false
set_option linter.all false
set_option autoImplicit false
set_option maxRecDepth 100000
set_option maxHeartbeats 1000000
/-! x[i] = y; displays. -/
namespace Cs
open PySem L2 PyProof.Rows
section
variable {α : Type} {G : PySem.W.Frag} {w : World} {b : Nat} {f : Fm} {M : Mem} {H : Hp} {ok : Unit → (Fm) → Mem → Hp → Prop} {er : Exc → (Fm) → Mem → Hp → Prop}
theorem Then.put0 {n : Nat} {c : Cell} (h : Then G w b f M H (Cs.put n c M) ok er) : ∀ f' H', Ext b f M H f' (M.set n c) H' → MemOk G w f' (M.set n c) H' → ok () f' (M.set n c) H' := h
end
theorem dO_new {P : Program} {w : World} {H : Hp} {h : Heap} {a : Addr} {es : List DictEntry} {ep : Nat} (hr : h.DictRaw a es.toArray ep) : ObjOk P w H h a (dO a es ep) := by
  obtain ⟨o, ho, q⟩ := id hr
  exact ⟨hr, ⟨o, ho⟩, fun h1 h2 p k => Heap.DictRaw.at p k⟩
section
variable {X : Cx} {Z : WX} {b : Nat} {σV : L2.St}
theorem x_put (hu : X.A.units + 100 < cLine) : ∀ (pins : List (Addr × Obj)) (s : Shared) (σ : L2.St) (H : Hp) (o i v : V) (ov iv u : Value) (Q : Hp → Prop), Inv X pins σ H s → RelV o ov → RelV i iv → RelV v u →
    (∃ f M x y z, MemOk X.K X.w f M H ∧ b ≤ M.length ∧ RW X.K X.w f M H o x ∧ RW X.K X.w f M H i y ∧ RW X.K X.w f M H v z ∧ Then X.K X.w b f M H (putW b x y z M) (fun _ f' M' H' => Q H') (erW X Z σV)) →
    wpAny (model X.prog X.w) X.A (setItem ov iv u) (fun _ s' => ∃ H', Inv X pins σ H' s' ∧ Q H') X.xe s := by
  intro pins s σ H o i v ov iv u Q I ro ri rv ⟨f, M, x, y, z, m, hb, rx, ry, rz, h⟩
  cases x with
  | d _ => exact h.elim
  | c n =>
    simp only [putW] at h
    split at h
    · rename_i hmp
      obtain ⟨c, ec, h⟩ := h.look
      obtain ⟨k, ek, h⟩ := h.rd
      have hn : n < M.length := (List.getElem?_eq_some_iff.mp ec).1
      have hc := m.cell n c ec
      have tk := ry.dt m ek
      cases c with
      | lst ws =>
        cases k with
        | int j =>
          obtain ⟨p, ep, h⟩ := h.opt
          have h := h.put0
          obtain ⟨xs, q, rr, hl⟩ := hc
          obtain ⟨_, rfl⟩ := rx
          cases (show i = .int j from tk)
          obtain ⟨m', x'⟩ := m.write (b := b) (n := n) (c := .lst (ws.set p z)) (o := .lst (xs.set p v)) hn (fun c₀ e r hr => by
            rw [ec] at e; cases e
            simp only [Cell.refs, List.mem_flatMap] at hr ⊢
            obtain ⟨y, hy, hr⟩ := hr
            rcases List.mem_or_eq_of_mem_set hy with hy | rfl
            · exact .inl ⟨y, hy, hr⟩
            · exact .inr (mayPut_refs hmp r hr)) (fun M' H' x' e => ⟨_, e, (rr.ext x').set p (rz.ext x'), by simpa using hl⟩)
          exact set_list pins s σ H _ _ v ov iv u Q I ro ri rv ⟨f n, xs, j, p, rfl, rfl, q, by rw [rr.length]; exact ep, h f _ x' m'⟩
        | _ => exact h.elim
      | dic kvs =>
        have h' : Then X.K X.w b f M H ((if putOk kvs k then Cs.put n (.dic (dput kvs k z)) else K.stop) M) (fun _ f' M' H' => Q H') (erW X Z σV) := by cases k <;> exact h
        split at h'
        · rename_i hpk
          have h := h'.put0
          obtain ⟨ns, es, ep0, q, rr, kk⟩ := hc
          obtain ⟨_, rfl⟩ := rx
          cases ro
          have hd : DcAt X.K H (fun _ => False) (f n) es := ⟨ns, .inl ⟨ep0, q, id⟩⟩
          obtain ⟨ep, hr⟩ := hd.raw I
          have ask : askOk kvs k = true := by unfold putOk at hpk; rw [Bool.and_eq_true] at hpk; exact hpk.1
          refine dict_set I (by omega) hr rr.ek kk ask (tk.key m (askOk_def ask).1) ri rv rz fun t h' es' ep' hr' re hs => ?_
          obtain ⟨m', x'⟩ := m.write (b := b) (n := n) (c := .dic (dput kvs k z)) (o := dO (f n) es' ep') hn (fun c₀ e r hr => by
            rw [ec] at e; cases e
            simp only [Cell.refs, List.mem_flatMap] at hr ⊢
            obtain ⟨p, hp, hr⟩ := hr
            unfold dput at hp
            split at hp
            · obtain ⟨p0, hp0, rfl⟩ := List.mem_map.mp hp
              split at hr
              · exact .inr (mayPut_refs hmp r hr)
              · exact .inl ⟨p0, hp0, hr⟩
            · rcases List.mem_append.mp hp with hp | hp
              · exact .inl ⟨p, hp, hr⟩
              · simp at hp; subst hp; exact .inr (mayPut_refs hmp r hr)) (fun M' H' x' e => ⟨ns, es', ep', e, (re.rwk).ext x', dput_keys kk hpk⟩)
          have he : ∃ q, h'.get? (f n) = some q := let ⟨o, ho, _⟩ := hr'; ⟨o, ho⟩
          exact ⟨_, d_write I (by rw [q]; exact True.intro) hs he (dO_new hr'), h f _ x' m'⟩
        · exact h'.elim
      | obj o => cases k <;> exact h.elim
    · exact h.elim
/-! ### tuples, lists written out -/
theorem mapM_data {ws : List W} {xs : List PyData} (h : ws.mapM W.dat = some xs) : ws = xs.map W.d := by
  induction ws generalizing xs with
  | nil => simp at h; subst h; rfl
  | cons y ws ih =>
    rw [List.mapM_cons] at h
    cases y with
    | c n => simp [W.dat] at h
    | d x =>
      cases hm : ws.mapM W.dat with
      | none => simp [W.dat, hm] at h
      | some es =>
        simp [W.dat, hm] at h
        subst h
        rw [ih hm]; rfl
/-- a list, data or a cell -/
theorem out_list {f : Fm} {M : Mem} {H : Hp} {k : Bool} {ws : List W} {vs : List V} {Q : VK} (m : MemOk X.K X.w f M H) (hb : b ≤ M.length) (r : RWs X.K X.w f M H vs ws) (h : Then X.K X.w b f M H (lstW k ws M) (fun z f' M' H' => ∀ v, RW X.K X.w f' M' H' v z → Q v H') (erW X Z σV)) :
    ws.length ≤ top ∧ ∀ p, H p = none → Q (.ref p) (upd H p (.lst vs)) := by
  unfold lstW at h
  split at h
  · rename_i hl
    refine ⟨hl, fun p hp => ?_⟩
    cases k with
    | true =>
      obtain ⟨f', e1, m', x'⟩ := m.alloc (b := b) (o := .lst vs) (c := .lst ws) hb hp fun f' M' H' x' e => ⟨vs, e, r.ext x', hl⟩
      exact h f' _ x' m' _ ⟨by simp, by rw [e1]⟩
    | false =>
      obtain ⟨z, ez, h2⟩ := Then.opt1 (y := (ws.mapM W.dat).map fun xs => W.d (.list xs)) h
      obtain ⟨xs, ex, rfl⟩ := Option.map_eq_some_iff.mp ez
      have := mapM_data ex
      subst this
      obtain ⟨m', x'⟩ := m.lay (b := b) (o := .lst vs) hp
      exact h2 f _ x' m' _ (.lst ⟨.inl upd_same, m.notC hp⟩ ((RWs.data.1 r).stay x'.stay))
  · exact h.elim
end
end Cs
set_option Elab.async false
set_option linter.all false
set_option autoImplicit false
set_option maxRecDepth 100000
set_option maxHeartbeats 1000000
/-! Targets; what is walked. -/
namespace Cs
open PySem L2 PyProof.Rows
/-! ### targets -/
def locB (sc : Scope) (x : Str) : Bool := match sc.names.lookup x with
  | some .local => true
  | some .cell => true
  | _ => false
def visB (sc : Scope) (x : Str) : Bool := match sc.names.lookup x with
  | some .local => true
  | some .cell => true
  | some .free => true
  | _ => false
theorem locB_def {sc : Scope} {x : Str} (h : locB sc x = true) : Loc sc x := by
  unfold locB at h
  split at h
  · exact .inl ‹_›
  · exact .inr ‹_›
  · exact absurd h (by decide)
theorem visB_def {sc : Scope} {x : Str} (h : visB sc x = true) : Vis sc x := by
  unfold visB at h
  split at h
  · exact .inl ‹_›
  · exact .inr (.inl ‹_›)
  · exact .inr (.inr ‹_›)
  · exact absurd h (by decide)
mutual
def chkP (N : List Str) (ok : Str → Bool) : Pt → Expr → Bool
  | .v i, .Name x _ => (N[i]? == some x) && ok x
  | .tup ps, .Tuple es _ _ => chkPs N ok ps es
  | _, _ => false
def chkPs (N : List Str) (ok : Str → Bool) : Pts → List Expr → Bool
  | .nil, [] => true
  | .cons p r, e :: es => chkP N ok p e && chkPs N ok r es
  | _, _ => false
end
def lenPs : Pts → Nat
  | .nil => 0
  | .cons _ r => lenPs r + 1
mutual
def gP (G : PySem.W.Frag) : Pt → TG
  | .v i => gName i
  | .tup ps => gTup G (lenPs ps) (gPs G ps)
def gPs (G : PySem.W.Frag) : Pts → TGs
  | .nil => gNil
  | .cons p r => gCons (gP G p) (gPs G r)
end
theorem chkP_form {N : List Str} {ok : Str → Bool} {p : Pt} {e : Expr} (h : chkP N ok p e = true) : (∃ i x pos, p = .v i ∧ e = .Name x pos ∧ N[i]? = some x ∧ ok x = true) ∨ ∃ ps es k pos, p = .tup ps ∧ e = .Tuple es k pos ∧ chkPs N ok ps es = true := by
  cases p with
  | v i =>
    cases e <;> first
      | (simp only [chkP, Bool.and_eq_true] at h
         exact .inl ⟨i, _, _, rfl, rfl, eq_of_beq h.1, h.2⟩)
      | simp [chkP] at h
  | tup ps =>
    cases e <;> first
      | (simp only [chkP] at h
         exact .inr ⟨ps, _, _, _, rfl, rfl, h⟩)
      | simp [chkP] at h
section
variable {X : Cx}
theorem each_form {env : Env} {N : List Str} {ok : Str → Bool} : ∀ {ps : Pts} {es : List Expr}, chkPs N ok ps es = true → (assignEach es env).length = lenPs ps ∧ (assignEach es env).findIdx? (·.1) = none ∧ ∀ e ∈ es, ∀ r, (assignEach (e :: r) env).map (·.2) = assign e env :: (assignEach r env).map (·.2)
  | .nil, [], _ => ⟨rfl, rfl, fun _ h => by simp at h⟩
  | .cons p r, e :: es, h => by
    simp only [chkPs, Bool.and_eq_true] at h
    obtain ⟨a, b, c⟩ := each_form (env := env) h.2
    have one : ∀ r, assignEach (e :: r) env = (false, assign e env) :: assignEach r env := fun r => by
      rcases chkP_form h.1 with ⟨i, x, pos, _, rfl, _⟩ | ⟨qs, fs, k, pos, _, rfl, _⟩ <;> rfl
    refine ⟨by rw [one, List.length_cons, a]; rfl, by rw [one, List.findIdx?_cons]; simp [b], fun e' he r' => ?_⟩
    rcases List.mem_cons.mp he with rfl | he
    · rw [one]; rfl
    · exact c e' he r'
  | .nil, _ :: _, h => by simp [chkPs] at h
  | .cons _ _, [], h => by simp [chkPs] at h
mutual
theorem pg_of (hc : X.calm = true) (nd : X.N.Nodup) {ok : Str → Bool} (hf : ∀ x, ok x = true → Loc X.env.scope x ∧ (X.fn x = true ∨ X.env.scope.names.lookup x = some .local)) : ∀ (p : Pt) (e : Expr), chkP X.N ok p e = true → PG X e (gP X.K p)
  | .v i, e, h => by
    rcases chkP_form h with ⟨j, x, pos, e1, rfl, e2, e3⟩ | ⟨_, _, _, _, e1, _, _⟩
    · cases e1
      exact pg_name nd e2 (hf x e3).1 (hf x e3).2
    · cases e1
  | .tup ps, e, h => by
    rcases chkP_form h with ⟨_, _, _, e1, _⟩ | ⟨qs, es, k, pos, e1, rfl, e2⟩
    · cases e1
    · cases e1
      obtain ⟨a, b, _⟩ := each_form (env := X.env) e2
      rw [gP]
      exact pg_tup hc (pgs_of hc nd hf ps es e2) a b
theorem pgs_of (hc : X.calm = true) (nd : X.N.Nodup) {ok : Str → Bool} (hf : ∀ x, ok x = true → Loc X.env.scope x ∧ (X.fn x = true ∨ X.env.scope.names.lookup x = some .local)) : ∀ (ps : Pts) (es : List Expr), chkPs X.N ok ps es = true → PGs X es (gPs X.K ps)
  | .nil, [], _ => by rw [gPs]; exact pgs_nil
  | .cons p r, e :: es, h => by
    have h' := h
    simp only [chkPs, Bool.and_eq_true] at h'
    rw [gPs]
    exact pgs_cons (pg_of hc nd hf p e h'.1) (pgs_of hc nd hf r es h'.2) ((each_form (env := X.env) h).2.2 e (by simp) es)
  | .nil, _ :: _, h => by simp [chkPs] at h
  | .cons _ _, [], h => by simp [chkPs] at h
end
/-- a target takes a value -/
theorem SlR.set {G : PySem.W.Frag} {w : World} {f : Fm} {M : Mem} {H : Hp} {σV : L2.St} {σ : Sl} {i : Nat} {v : V} {y : W} (s : SlR G w f M H σV σ) (hi : i < σ.length) (r : RW G w f M H v y) : SlR G w f M H (σV.set i (some v)) (σ.set i (some y)) := by
  refine ⟨by simp [s.1], fun j x e => ?_⟩
  by_cases hj : j = i
  · subst hj
    rw [List.getElem?_set_self hi] at e
    cases e
    exact ⟨v, by rw [List.getElem?_set_self (by rw [s.1]; exact hi)], r⟩
  · rw [List.getElem?_set_ne (Ne.symm hj)] at e
    obtain ⟨v', e1, e2⟩ := s.2 j x e
    exact ⟨v', by rw [List.getElem?_set_ne (Ne.symm hj)]; exact e1, e2⟩
theorem lenPs_of : ∀ {ps : Pts} {ws : List W} {σ σ' : Sl}, bindPs ps ws σ = some σ' → lenPs ps = ws.length
  | .nil, [], _, _, _ => rfl
  | .cons p r, w :: ws, σ, σ', h => by
    simp only [bindPs] at h
    obtain ⟨σ1, _, h2⟩ := Option.bind_eq_some_iff.mp h
    simp [lenPs, lenPs_of h2]
  | .nil, _ :: _, _, _, h => by simp [bindPs] at h
  | .cons _ _, [], _, _, h => by simp [bindPs] at h
/-- the slots outside l are the same -/
def Sam (l : List Nat) (a b : L2.St) : Prop := b.length = a.length ∧ ∀ i, i ∉ l → b[i]? = a[i]?
theorem Sam.trans {l l' : List Nat} {a b c : L2.St} (h : Sam l a b) (h' : Sam l' b c) : Sam (l ++ l') a c := ⟨h'.1.trans h.1, fun i hi => by
  rw [List.mem_append, not_or] at hi
  rw [h'.2 i hi.2, h.2 i hi.1]⟩
mutual
theorem gP_ok {f : Fm} {M : Mem} {H : Hp} : ∀ {p : Pt} {y : W} {σ σ' : Sl} {σV : L2.St} {v : V} {Q : L2.St → Hp → Prop}, bindP p y σ = some σ' → SlR X.K X.w f M H σV σ → RW X.K X.w f M H v y → (∀ σV', SlR X.K X.w f M H σV' σ' → Sam (asgdP p) σV σV' → Q σV' H) → gP X.K p v σV H Q
  | .v i, y, σ, σ', σV, v, Q, h, s, r, q => by
    simp only [bindP] at h
    split at h
    · rename_i hi
      cases h
      rw [gP]
      exact q _ (s.set hi r) ⟨by simp, fun j hj => by rw [asgdP, List.mem_singleton] at hj; rw [List.getElem?_set_ne (Ne.symm hj)]⟩
    · cases h
  | .tup ps, .d (.tuple xs), σ, σ', σV, v, Q, h, s, r, q => by
    simp only [bindP] at h
    rw [gP]
    cases (show DR X.K X.w H (isC f M) v (.tuple xs) from r) with
    | tup h1 h2 =>
      have hl := lenPs_of h
      rw [List.length_map] at hl
      exact ⟨_, _, rfl, h1.sq, by rw [h2.length, hl], gPs_ok h s (RWs.data.2 h2) fun σV' s' k => q σV' s' (by rw [asgdP]; exact k)⟩
  | .tup ps, .d .none, _, _, _, _, _, h, _, _, _ => by simp [bindP] at h
  | .tup ps, .d (.bool _), _, _, _, _, _, h, _, _, _ => by simp [bindP] at h
  | .tup ps, .d (.int _), _, _, _, _, _, h, _, _, _ => by simp [bindP] at h
  | .tup ps, .d (.str _), _, _, _, _, _, h, _, _, _ => by simp [bindP] at h
  | .tup ps, .d (.list _), _, _, _, _, _, h, _, _, _ => by simp [bindP] at h
  | .tup ps, .d (.dict _), _, _, _, _, _, h, _, _, _ => by simp [bindP] at h
  | .tup ps, .c _, _, _, _, _, _, h, _, _, _ => by simp [bindP] at h
theorem gPs_ok {f : Fm} {M : Mem} {H : Hp} : ∀ {ps : Pts} {ys : List W} {σ σ' : Sl} {σV : L2.St} {vs : List V} {Q : L2.St → Hp → Prop}, bindPs ps ys σ = some σ' → SlR X.K X.w f M H σV σ → RWs X.K X.w f M H vs ys → (∀ σV', SlR X.K X.w f M H σV' σ' → Sam (asgdPs ps) σV σV' → Q σV' H) → gPs X.K ps vs σV H Q
  | .nil, [], σ, σ', σV, vs, Q, h, s, r, q => by
    simp only [bindPs, Option.some.injEq] at h
    subst h
    have := r.zero
    subst this
    rw [gPs]
    exact ⟨rfl, q _ s ⟨rfl, fun _ _ => rfl⟩⟩
  | .cons p pr, y :: ys, σ, σ', σV, vs, Q, h, s, r, q => by
    simp only [bindPs] at h
    obtain ⟨σ1, h1, h2⟩ := Option.bind_eq_some_iff.mp h
    cases vs with
    | nil => exact r.elim
    | cons v vr =>
      rw [gPs]
      exact ⟨v, vr, rfl, gP_ok h1 s r.1 fun σV1 s1 k1 => gPs_ok h2 s1 r.2 fun σV2 s2 k2 => q σV2 s2 (by rw [asgdPs]; exact k1.trans k2)⟩
  | .nil, _ :: _, _, _, _, _, _, h, _, _, _ => by simp [bindPs] at h
  | .cons _ _, [], _, _, _, _, _, h, _, _, _ => by simp [bindPs] at h
end
end
end Cs
set_option Elab.async false
set_option linter.all false
set_option autoImplicit false
set_option maxRecDepth 100000
set_option maxHeartbeats 1000000
/-! What is walked. -/
namespace Cs
open PySem L2 PyProof.Rows
theorem DR.mono {K : PySem.W.Frag} {w : World} {H : Hp} {C C' : Addr → Prop} {v : V} {d : PyData} (h : ∀ a, C' a → C a) (r : DR K w H C v d) : DR K w H C' v d := r.stay fun a o e _ n => ⟨e, fun c => n (h a c)⟩
section
variable {G : PySem.W.Frag} {w : World} {f f' : Fm} {M M' : Mem} {H H' : Hp}
/-- another frame, in which what was read stays -/
structure Mv (f : Fm) (M : Mem) (H : Hp) (f' : Fm) (M' : Mem) (H' : Hp) : Prop where
  len : M.length ≤ M'.length
  same : ∀ n, n < M.length → f' n = f n
  st : Stay H H' (isC f M) (isC f' M')
theorem Ext.mv {b : Nat} (x : Ext b f M H f' M' H') : Mv f M H f' M' H' := ⟨x.len, x.same, x.stay⟩
theorem RW.mv (x : Mv f M H f' M' H') {v : V} : ∀ {y : W}, RW G w f M H v y → RW G w f' M' H' v y
  | .d _, h => DR.stay x.st h
  | .c n, ⟨h, e⟩ => ⟨Nat.lt_of_lt_of_le h x.len, by rw [x.same n h]; exact e⟩
theorem RWs.mv (x : Mv f M H f' M' H') : ∀ {vs : List V} {ws : List W}, RWs G w f M H vs ws → RWs G w f' M' H' vs ws
  | [], [], _ => trivial
  | _ :: _, _ :: _, ⟨h, r⟩ => ⟨h.mv x, RWs.mv x r⟩
  | [], _ :: _, h => h.elim
  | _ :: _, [], h => h.elim
theorem RWk.mv (x : Mv f M H f' M' H') : ∀ {es : List DictEntry} {ws : List (PyData × W)}, RWk G w f M H es ws → RWk G w f' M' H' es ws
  | [], [], _ => trivial
  | _ :: _, (_, _) :: _, ⟨⟨kv, vv, a, b, c, d, e⟩, r⟩ => ⟨⟨kv, vv, a, b, c, d.stay x.st, e.mv x⟩, RWk.mv x r⟩
  | [], _ :: _, h => h.elim
  | _ :: _, [], h => h.elim
theorem CellOk.mv (x : Mv f M H f' M' H') {a : Addr} (h : H' a = H a) : ∀ {c : Cell}, CellOk G w f M H a c → CellOk G w f' M' H' a c
  | .lst _, ⟨vs, q, r, l⟩ => ⟨vs, by rw [h]; exact q, r.mv x, l⟩
  | .dic _, ⟨n, es, ep, q, r, k⟩ => ⟨n, es, ep, by rw [h]; exact q, r.mv x, k⟩
  | .obj _, q => ObOk.stay x.st h q
theorem SlR.mv {σV : L2.St} {σ : Sl} (x : Mv f M H f' M' H') (s : SlR G w f M H σV σ) : SlR G w f' M' H' σV σ :=
  ⟨s.1, fun i y e => let ⟨v, h1, h2⟩ := s.2 i y e; ⟨v, h1, h2.mv x⟩⟩
theorem Mv.less (len : M.length ≤ M'.length) (same : ∀ n, n < M.length → f' n = f n) (less : ∀ a, isC f' M' a → isC f M a) : Mv f M H f' M' H := ⟨len, same, fun a o e _ n => ⟨e, fun c => n (less a c)⟩⟩
theorem Mv.trans {f₂ : Fm} {M₂ : Mem} {H₂ : Hp} (x : Mv f M H f' M' H') (y : Mv f' M' H' f₂ M₂ H₂) : Mv f M H f₂ M₂ H₂ :=
  ⟨Nat.le_trans x.len y.len, fun n h => (y.same n (Nat.lt_of_lt_of_le h x.len)).trans (x.same n h), fun a o e t n => let q := x.st a o e t n; y.st a o q.1 t q.2⟩
theorem Mv.refl : Mv f M H f M H := ⟨Nat.le_refl _, fun _ _ => rfl, fun _ _ e _ n => ⟨e, n⟩⟩
end
/-- the walk gives these values, whatever comes -/
def ItOk (X : Cx) (b : Nat) (f : Fm) (M : Mem) (H : Hp) (J : Iter) (T : It) : Prop := match J with
  | .items ws => ∀ f' M' H', Mv f M H f' M' H' → MemOk X.K X.w f' M' H' →
      (∀ i y, ws[i]? = some y → T.go i H' ∧ ∀ x H2, T.yld i H' x H2 → MemOk X.K X.w f' M' H2 ∧ Ext b f' M' H' f' M' H2 ∧ RW X.K X.w f' M' H2 x y) ∧ T.stop ws.length H'
  | .live n => ∀ f' M' H' us, Mv f M H f' M' H' → MemOk X.K X.w f' M' H' → M'[n]? = some (.lst us) →
      (∀ i y, us[i]? = some y → T.go i H' ∧ ∀ x H2, T.yld i H' x H2 → MemOk X.K X.w f' M' H2 ∧ Ext b f' M' H' f' M' H2 ∧ RW X.K X.w f' M' H2 x y) ∧ T.stop us.length H'
/-- a computation over the slots, as the reading of what is walked -/
def iR (X : Cx) (Z : WX) (b : Nat) (run : Sl → K Iter) : TI := fun σV H R => ∃ f σ M, Stt X b f σ M σV H ∧ Then X.K X.w b f M H (run σ M) (fun J f' M' H' => ∀ T, ItOk X b f' M' H' J T → R T H') (erW X Z σV)
section
variable {X : Cx} {Z : WX} {b : Nat} {σV : L2.St} {tg : Expr}
/-! ### lists, tuples, dicts -/
theorem itOk_list {f : Fm} {M : Mem} {H : Hp} {a : Addr} {vs : List V} {ds : List PyData} (h : LsAt H (isC f M) a vs) (r : DRs X.K X.w H (isC f M) vs ds) : ItOk X b f M H (.items (ds.map W.d)) (Itl X.K a) := by
  intro f' M' H' x m
  have h' := h.stay x.st
  refine ⟨fun i y e => ?_, ⟨vs, h'.sq, by simp [r.length]⟩⟩
  rw [List.getElem?_map] at e
  obtain ⟨d, e1, rfl⟩ := Option.map_eq_some_iff.mp e
  obtain ⟨v, e2, rv⟩ := (r.stay x.st).get e1
  refine ⟨⟨vs, v, h'.sq, e2⟩, fun u H2 ⟨e3, e4⟩ => ?_⟩
  subst e3
  have := e4 vs h'.sq
  rw [e2] at this
  cases this
  exact ⟨m, .refl, rv⟩
theorem itOk_tup {f : Fm} {M : Mem} {H : Hp} {a : Addr} {vs : List V} {ds : List PyData} (h : TpAt X.K H (isC f M) a vs) (r : DRs X.K X.w H (isC f M) vs ds) : ItOk X b f M H (.items (ds.map W.d)) (Itt X.K a) := by
  intro f' M' H' x m
  have h' := h.stay x.st
  refine ⟨fun i y e => ?_, ⟨vs, h'.sq, by simp [r.length]⟩⟩
  rw [List.getElem?_map] at e
  obtain ⟨d, e1, rfl⟩ := Option.map_eq_some_iff.mp e
  obtain ⟨v, e2, rv⟩ := (r.stay x.st).get e1
  refine ⟨⟨vs, v, h'.sq, e2⟩, fun u H2 ⟨e3, e4⟩ => ?_⟩
  subst e3
  have := e4 vs h'.sq
  rw [e2] at this
  cases this
  exact ⟨m, .refl, rv⟩
theorem itOk_cell {f : Fm} {M : Mem} {H : Hp} {n : Nat} (hn : n < M.length) : ItOk X b f M H (.live n) (Itl X.K (f n)) := by
  intro f' M' H' us x m e
  obtain ⟨vs, q, r, _⟩ := m.cell n _ e
  rw [x.same n hn] at q
  have hq : SqL X.K H' (f n) vs := .inl (.inl q)
  refine ⟨fun i y e => ?_, ⟨vs, hq, by simp [r.length]⟩⟩
  obtain ⟨v, e2, rv⟩ := r.get e
  refine ⟨⟨vs, v, hq, e2⟩, fun u H2 ⟨e3, e4⟩ => ?_⟩
  subst e3
  have := e4 vs hq
  rw [e2] at this
  cases this
  exact ⟨m, .refl, rv⟩
/-- a dict stands there, its entries and its epoch -/
def DcE (K : PySem.W.Frag) (H : Hp) (a : Addr) (es : List DictEntry) (ep : Nat) : Prop := H a = some (dO a es ep) ∨ ∃ o : Obj, K.lookup a = some o ∧ o.ExactDict ∧ o.data = .dict es.toArray ep
theorem DcE.raw {pins : List (Addr × Obj)} {σ : L2.St} {H : Hp} {s : Shared} {a : Addr} {es : List DictEntry} {ep : Nat} (I : Inv X pins σ H s) (h : DcE X.K H a es ep) : s.heap.DictRaw a es.toArray ep := by
  rcases h with h | ⟨o, hk, hx, hd⟩
  · obtain ⟨q, _⟩ := (show ObjOk X.prog X.w H s.heap a (dO a es ep) from I.hok _ _ h)
    exact q
  · exact ⟨o, I.kIn _ o hk, hx, hd⟩
/-- the dict's keys; its values -/
def Itdk (K : PySem.W.Frag) (a : Addr) (es : List DictEntry) (ep : Nat) (vs : List V) : It := ⟨fun i H => DcE K H a es ep ∧ i < es.length, fun i H x H' => H' = H ∧ vs[i]? = some x, fun i H => DcE K H a es ep ∧ es.length ≤ i⟩
theorem vals_at {vs : List V} {us : List Value} {i : Nat} (h : Vals vs us) (hi : i < us.length) : ∃ v, vs[i]? = some v ∧ RelV v us[i] := by
  have hl := h.length
  have hi' : i < vs.length := by omega
  obtain ⟨u, e, r⟩ := h.get (List.getElem?_eq_getElem hi')
  rw [List.getElem?_eq_getElem hi] at e
  cases e
  exact ⟨_, List.getElem?_eq_getElem hi', r⟩
theorem turn_dkeys {P : Program} {w : World} {K : PySem.W.Frag} (a it : Addr) (es : List DictEntry) (ep : Nat) (vs : List V) (hv : Vals vs (es.map (·.key))) : Turn P w K tg (Itdk K a es ep vs) [it] it (fun i h => h.IsKeyIter it a i es.length ep) where
  mem := by simp
  obj := fun i h st c hc => by
    have e : c = it := by simpa using hc
    subst e
    obtain ⟨o, e, c, d⟩ := st
    exact ⟨o, e, fun v z => by rw [d] at z; cases z⟩
  keep := fun i h h' st k => let ⟨o, e, c, d⟩ := st; ⟨o, k it (by simp) o e, c, d⟩
  item := by
    intro X hP hw hK hc i pins s σ H E I hf st hg
    subst hP hw hK
    obtain ⟨f0, f1, f2, f3, f4, f5⟩ := hf it (by simp)
    have hr := hg.1.raw I
    have hi : i < es.length := hg.2
    refine wpAny_pyNext_keys_item_raw (es := es.toArray) (by simpa using st) hr (by simpa using hi) fun h' st' sb => ?_
    have I1 : Inv X pins σ H { s with heap := h' } := I.turned (t' := s.toks) (fun b o hb e => (sb.2 b hb).trans e) f0 f1 f3 f4 f5
    obtain ⟨o, e, c, d⟩ := id st'
    obtain ⟨v, e1, rv⟩ := vals_at (i := i) hv (by simpa using hi)
    simp only [List.getElem_map] at rv
    exact ⟨_, rfl, go_of (s := { s with heap := h' }) e c d (by decide) ⟨v, H, I1, rv, ⟨rfl, e1⟩, by simpa using st', fun b hb => (hf b hb).1⟩⟩
  done := by
    intro X hP hw hK hc i pins s σ H E I hf st hg
    subst hP hw hK
    obtain ⟨f0, f1, f2, f3, f4, f5⟩ := hf it (by simp)
    exact wpAny_pyNext_keys_end_raw (es := es.toArray) (I.ok.hd hc) (by simpa using st) (hg.1.raw I) (by simpa using hg.2) fun h' eb => ⟨rfl, I.turned (t' := s.toks) (fun b o hb e => eb b o hb e) f0 f1 f3 f4 f5⟩
  self := fun A i s Q E st h => wpAny_pyIter_keyiter st h
theorem turn_dvals {P : Program} {w : World} {K : PySem.W.Frag} (a it : Addr) (es : List DictEntry) (ep : Nat) (vs : List V) (hv : Vals vs (es.map (·.val))) : Turn P w K tg (Itdk K a es ep vs) [it] it (fun i h => h.IsValIter it a i es.length ep) where
  mem := by simp
  obj := fun i h st c hc => by
    have e : c = it := by simpa using hc
    subst e
    obtain ⟨o, e, c, d⟩ := st
    exact ⟨o, e, fun v z => by rw [d] at z; cases z⟩
  keep := fun i h h' st k => let ⟨o, e, c, d⟩ := st; ⟨o, k it (by simp) o e, c, d⟩
  item := by
    intro X hP hw hK hc i pins s σ H E I hf st hg
    subst hP hw hK
    obtain ⟨f0, f1, f2, f3, f4, f5⟩ := hf it (by simp)
    have hr := hg.1.raw I
    have hi : i < es.length := hg.2
    refine wpAny_pyNext_values_item_raw (es := es.toArray) (by simpa using st) hr (by simpa using hi) fun h' st' sb => ?_
    have I1 : Inv X pins σ H { s with heap := h' } := I.turned (t' := s.toks) (fun b o hb e => (sb.2 b hb).trans e) f0 f1 f3 f4 f5
    obtain ⟨o, e, c, d⟩ := id st'
    obtain ⟨v, e1, rv⟩ := vals_at (i := i) hv (by simpa using hi)
    simp only [List.getElem_map] at rv
    exact ⟨_, rfl, go_of (s := { s with heap := h' }) e c d (by decide) ⟨v, H, I1, rv, ⟨rfl, e1⟩, by simpa using st', fun b hb => (hf b hb).1⟩⟩
  done := by
    intro X hP hw hK hc i pins s σ H E I hf st hg
    subst hP hw hK
    obtain ⟨f0, f1, f2, f3, f4, f5⟩ := hf it (by simp)
    exact wpAny_pyNext_values_end_raw (es := es.toArray) (I.ok.hd hc) (by simpa using st) (hg.1.raw I) (by simpa using hg.2) fun h' eb => ⟨rfl, I.turned (t' := s.toks) (fun b o hb e => eb b o hb e) f0 f1 f3 f4 f5⟩
  self := fun A i s Q E st h => wpAny_pyIter_valiter st h
theorem DRk.keysV {K : PySem.W.Frag} {w : World} {H : Hp} {C : Addr → Prop} : ∀ {es : List DictEntry} {kvs : List (PyData × PyData)}, DRk K w H C es kvs → ∃ vs, Vals vs (es.map (·.key)) ∧ DRs K w H C vs (kvs.map (·.1))
  | _, _, .nil => ⟨[], .nil, .nil⟩
  | _, _, .cons _ a _ d _ r => let ⟨vs, h1, h2⟩ := DRk.keysV r; ⟨_ :: vs, .cons a h1, .cons d h2⟩
theorem DRk.valsV {K : PySem.W.Frag} {w : World} {H : Hp} {C : Addr → Prop} : ∀ {es : List DictEntry} {kvs : List (PyData × PyData)}, DRk K w H C es kvs → ∃ vs, Vals vs (es.map (·.val)) ∧ DRs K w H C vs (kvs.map (·.2))
  | _, _, .nil => ⟨[], .nil, .nil⟩
  | _, _, .cons _ _ a _ d r => let ⟨vs, h1, h2⟩ := DRk.valsV r; ⟨_ :: vs, .cons a h1, .cons d h2⟩
/-- the dict's exact place -/
def DcX (K : PySem.W.Frag) (H : Hp) (C : Addr → Prop) (a : Addr) (es : List DictEntry) (ep : Nat) : Prop := (H a = some (dO a es ep) ∧ ¬ C a) ∨ ∃ o : Obj, K.lookup a = some o ∧ o.ExactDict ∧ o.data = .dict es.toArray ep
theorem DcAt.ex {K : PySem.W.Frag} {H : Hp} {C : Addr → Prop} {a : Addr} {es : List DictEntry} (h : DcAt K H C a es) : (a == sysModules) = false ∧ ∃ ep, DcX K H C a es ep := by
  obtain ⟨h1, h⟩ := h
  refine ⟨h1, ?_⟩
  rcases h with ⟨ep, h⟩ | ⟨o, ep, h⟩
  · exact ⟨ep, .inl h⟩
  · exact ⟨ep, .inr ⟨o, h⟩⟩
theorem DcX.stay {K : PySem.W.Frag} {H H' : Hp} {C C' : Addr → Prop} {a : Addr} {es : List DictEntry} {ep : Nat} (st : Stay H H' C C') (h : DcX K H C a es ep) : DcX K H' C' a es ep := h.elim (fun z => .inl (st a _ z.1 (by first | exact noT_d _ _ _ | exact fun ps z => by cases z) z.2)) .inr
theorem DcX.e {K : PySem.W.Frag} {H : Hp} {C : Addr → Prop} {a : Addr} {es : List DictEntry} {ep : Nat} (h : DcX K H C a es ep) : DcE K H a es ep := h.elim (fun z => .inl z.1) .inr
theorem itOk_dict {f : Fm} {M : Mem} {H : Hp} {a : Addr} {es : List DictEntry} {ep : Nat} {vs : List V} {ds : List PyData} (h : DcX X.K H (isC f M) a es ep) (hl : es.length = vs.length) (r : DRs X.K X.w H (isC f M) vs ds) : ItOk X b f M H (.items (ds.map W.d)) (Itdk X.K a es ep vs) := by
  intro f' M' H' x m
  have h' := h.stay x.st
  refine ⟨fun i y e => ?_, ⟨h'.e, by simp [r.length, hl]⟩⟩
  rw [List.getElem?_map] at e
  obtain ⟨d, e1, rfl⟩ := Option.map_eq_some_iff.mp e
  obtain ⟨v, e2, rv⟩ := (r.stay x.st).get e1
  refine ⟨⟨h'.e, by rw [hl]; exact (List.getElem?_eq_some_iff.mp e2).1⟩, fun u H2 ⟨e3, e4⟩ => ?_⟩
  subst e3
  rw [e2] at e4
  cases e4
  exact ⟨m, .refl, rv⟩
/-- a value walked -/
theorem pi_of {e : Expr} {run : Sl → K Cs.W} (he : PE X e (tR X Z b run)) : PI X tg e (iR X Z b fun σ => (run σ).bnd iterOf) := by
  refine ⟨fun pins s σ H R I ⟨f, σ', M, st, h⟩ => ?_⟩
  refine thn (he.run pins s σ H (fun v H1 => ∃ f1 M1 y, MemOk X.K X.w f1 M1 H1 ∧ b ≤ M1.length ∧ RW X.K X.w f1 M1 H1 v y ∧ Then X.K X.w b f1 M1 H1 (iterOf y M1) (fun J f' M' H' => ∀ T, ItOk X b f' M' H' J T → R T H') (erW X Z σ)) I
    ⟨f, σ', M, st, h.bnd.imp (fun y f1 M1 H1 x1 m1 h1 v rv => ⟨f1, M1, y, m1, Nat.le_trans st.base x1.len, rv, h1⟩) fun _ _ _ _ _ _ z => z⟩) fun u s1 ⟨v, H1, I1, rv, f1, M1, y, m1, hb, ry, h⟩ => ?_
  cases y with
  | c n =>
    obtain ⟨c, ec, h⟩ := h.look
    obtain ⟨hn, rfl⟩ := ry
    cases rv
    have hc := m1.cell n c ec
    cases c with
    | dic _ => exact h.elim
    | obj _ => exact h.elim
    | lst ws =>
      obtain ⟨vs, q, r, _⟩ := hc
      have q1 : R (Itl X.K (f1 n)) H1 := Then.pur m1 h _ (itOk_cell hn)
      obtain ⟨its, rv, p, hz⟩ := I1.list (a := f1 n) (.inl (.inl q))
      refine wpAny_pyIter_list p.isList ?_
      exact pi_one (tk := s1.toks) I1 _ (turn_list (f1 n) _) ⟨_, Heap.get?_push_size _ rfl, rfl, rfl⟩ q1
  | d x =>
    have ry : DR X.K X.w H1 (isC f1 M1) v x := ry
    cases ry with
    | lst h1 r =>
      cases rv
      have q1 := Then.pur m1 h _ (itOk_list h1 r)
      obtain ⟨its, rv, p, hz⟩ := I1.list h1.sq
      refine wpAny_pyIter_list p.isList ?_
      exact pi_one (tk := s1.toks) I1 _ (turn_list _ _) ⟨_, Heap.get?_push_size _ rfl, rfl, rfl⟩ q1
    | tup h1 r =>
      cases rv
      have q1 := Then.pur m1 h _ (itOk_tup h1 r)
      obtain ⟨its, rv, p, hz⟩ := I1.tuple h1.sq
      refine wpAny_pyIter_tuple (show s1.heap.IsTuple _ its.toArray from p) ?_
      exact pi_one (tk := s1.toks) I1 _ (turn_tuple _ _) ⟨_, Heap.get?_push_size _ rfl, rfl, rfl⟩ q1
    | dic h1 r k =>
      rename_i a es kvs
      cases rv
      obtain ⟨ns, ep, hx⟩ := h1.ex
      obtain ⟨vs, e1, e2⟩ := r.keysV
      have q1 := Then.pur m1 h
      have q2 := q1 (Itdk X.K a es ep vs) (by
        have := itOk_dict (b := b) hx (by have := e1.length; simp at this; omega) e2
        rw [List.map_map] at this
        exact this)
      refine wpAny_pyIter_dict_raw ns (hx.e.raw I1) ?_
      refine pi_one (tk := s1.toks) I1 _ (turn_dkeys a _ es ep vs e1) ⟨_, Heap.get?_push_size _ rfl, rfl, ?_⟩ q2
      simp
    | _ => exact h.elim
end
end Cs
set_option Elab.async false
set_option linter.all false
set_option autoImplicit false
set_option maxRecDepth 100000
set_option maxHeartbeats 1000000
/-! range, zip, enumerate, values. -/
namespace Cs
open PySem L2 PyProof.Rows
section
variable {X : Cx} {Z : WX} {b : Nat} {σV : L2.St} {tg : Expr}
/-- arguments, read -/
theorem args_rd {es : List Expr} {run : Sl → K (List Cs.W)} (ha : PA X es (tRs X Z b run)) {pos : Pos} {pins : List (Addr × Obj)} {s : Shared} {σ : L2.St} {H : Hp} {J : K Iter} {g : List Cs.W → K Iter} {R : It → Hp → Prop} (I : Inv X pins σ H s)
    (h : iR X Z b (fun σ => (run σ).bnd g) σ H R) :
    wpAny (model X.prog X.w) X.A (spliced (backTo pos (starEach es X.env))) (AP X pins σ (fun vs H1 => ∃ f1 M1 ys, MemOk X.K X.w f1 M1 H1 ∧ b ≤ M1.length ∧ RWs X.K X.w f1 M1 H1 vs ys ∧ Then X.K X.w b f1 M1 H1 (g ys M1) (fun J f' M' H' => ∀ T, ItOk X b f' M' H' J T → R T H') (erW X Z σ))) X.xe s := by
  obtain ⟨f, σ', M, st, h⟩ := h
  exact ha.run pos pins s σ H _ I ⟨f, σ', M, st, h.bnd.imp (fun y f1 M1 H1 x1 m1 h1 v rv => ⟨f1, M1, y, m1, Nat.le_trans st.base x1.len, rv, h1⟩) fun _ _ _ _ _ _ z => z⟩
theorem itOk_range {f : Fm} {M : Mem} {H : Hp} (i j : Int) : ItOk X b f M H (.items (rangeD i j)) (Itr i (j - i).toNat) := by
  intro f' M' H' x m
  refine ⟨fun k y e => ?_, by show _ ≤ _; simp [rangeD]⟩
  unfold rangeD at e
  rw [List.getElem?_map] at e
  obtain ⟨d, e1, rfl⟩ := Option.map_eq_some_iff.mp e
  obtain ⟨hk, e2⟩ := List.getElem?_eq_some_iff.mp e1
  simp at e2 hk
  subst e2
  refine ⟨by show k < _; omega, fun u H2 ⟨e3, e4⟩ => ?_⟩
  subst e3 e4
  exact ⟨m, .refl, .int _⟩
theorem small_def {i : Int} (h : small i = true) : -(2 ^ 62) ≤ i ∧ i < 2 ^ 62 := by
  unfold small at h
  simpa using h
theorem RWs.two {G : PySem.W.Frag} {w : World} {f : Fm} {M : Mem} {H : Hp} {vs : List V} {y z : W} (h : RWs G w f M H vs [y, z]) : ∃ v u, vs = [v, u] ∧ RW G w f M H v y ∧ RW G w f M H u z := by
  cases vs with
  | nil => exact h.elim
  | cons v r => obtain ⟨u, rfl, h2⟩ := h.2.one; exact ⟨v, u, rfl, h.1, h2⟩
theorem pi_rng {es : List Expr} {run : Sl → K (List Cs.W)} {p pos : Pos} (hg : Gl X "range") (hm : X.mg "range" = none) (ha : PA X es (tRs X Z b run)) (hl : (∃ a, es = [a]) ∨ ∃ a c, es = [a, c])
    (hs : ∀ a r, a ∈ es → starEach (a :: r) X.env = (false, eval a X.env) :: starEach r X.env) : PI X tg (.Call (.Name "range" p) es [] pos) (iR X Z b fun σ => (run σ).bnd rngW) := by
  refine ⟨fun pins s σ H R I h => ?_⟩
  have main := args_rd (J := K.stop) (pos := pos) ha I h
  have fin : ∀ (us : List Value) (s1 : Shared), AP X pins σ (fun vs H1 => ∃ f1 M1 ys, MemOk X.K X.w f1 M1 H1 ∧ b ≤ M1.length ∧ RWs X.K X.w f1 M1 H1 vs ys ∧ Then X.K X.w b f1 M1 H1 (rngW ys M1) (fun J f' M' H' => ∀ T, ItOk X b f' M' H' J T → R T H') (erW X Z σ)) us s1 →
      wpAny (model X.prog X.w) X.A (PySem.call (.type "range") us) (fun v s2 => wpAny (model X.prog X.w) X.A (pyIter v) (PIE X pins σ tg R) X.xe s2) X.xe s1 := by
    intro us s1 ⟨vs, H1, I1, r1, f1, M1, ys, m1, hb, ry, h⟩
    match ys, h with
    | [.d (.int j)], h =>
      obtain ⟨v, rfl, rv⟩ := ry.one
      cases (show DR X.K X.w H1 (isC f1 M1) v (.int j) from rv)
      simp only [rngW] at h
      split at h
      · rename_i hj
        obtain ⟨j1, j2⟩ := small_def hj
        cases r1 with
        | cons r rr =>
          cases rr
          obtain ⟨t, rfl⟩ := r
          have q := Then.pur m1 h _ (itOk_range 0 j)
          exact call_range_1 (range_it I1 (by omega) (by omega) j1 j2 (by simpa using q))
      · exact h.elim
    | [.d (.int i), .d (.int j)], h =>
      obtain ⟨v, u, rfl, rv, ru⟩ := ry.two
      cases (show DR X.K X.w H1 (isC f1 M1) v (.int i) from rv)
      cases (show DR X.K X.w H1 (isC f1 M1) u (.int j) from ru)
      simp only [rngW] at h
      split at h
      · rename_i hj
        rw [Bool.and_eq_true] at hj
        obtain ⟨i1, i2⟩ := small_def hj.1
        obtain ⟨j1, j2⟩ := small_def hj.2
        cases r1 with
        | cons r rr =>
          cases rr with
          | cons r' rr =>
            cases rr
            obtain ⟨t, rfl⟩ := r
            obtain ⟨t', rfl⟩ := r'
            have q := Then.pur m1 h _ (itOk_range i j)
            exact call_range_2 (range_it I1 i1 i2 j1 j2 q)
      · exact h.elim
  rcases hl with ⟨a, rfl⟩ | ⟨a, c, rfl⟩
  · exact Call_ (ld_blt I hg hm boot_range (PyProof.Rows.callWith_type1 (thn main fin) (hs a [] (by simp)) rfl))
  · exact Call_ (ld_blt I hg hm boot_range (PyProof.Rows.callWith_type1 (thn main fin) (hs a [c] (by simp)) (by rw [hs c [] (by simp)]; rfl)))
/-! ### zip -/
theorem pair_ok {f : Fm} {M : Mem} {H : Hp} {T : Addr} {u v : V} {x y : PyData} (m : MemOk X.K X.w f M H) (hT : H T = none) (ru : DR X.K X.w H (isC f M) u x) (rv : DR X.K X.w H (isC f M) v y) :
    MemOk X.K X.w f M (upd H T (.tup [u, v])) ∧ Ext b f M H f M (upd H T (.tup [u, v])) ∧ RW X.K X.w f M (upd H T (.tup [u, v])) (.ref T) (.d (.tuple [x, y])) := by
  obtain ⟨m', x'⟩ := m.lay (b := b) (o := .tup [u, v]) hT
  exact ⟨m', x', .tup (.inl ⟨.inl upd_same, m.notC hT⟩) (.cons (ru.stay x'.stay) (.cons (rv.stay x'.stay) .nil))⟩
theorem zip_at {xs ys : List PyData} {i : Nat} {y : W} (e : (zipD xs ys)[i]? = some y) : ∃ p q, xs[i]? = some p ∧ ys[i]? = some q ∧ y = .d (.tuple [p, q]) := by
  unfold zipD at e
  rw [List.getElem?_map] at e
  obtain ⟨d, e1, rfl⟩ := Option.map_eq_some_iff.mp e
  rw [List.getElem?_zip_eq_some] at e1
  exact ⟨_, _, e1.1, e1.2, rfl⟩
theorem itOk_zipL {f : Fm} {M : Mem} {H : Hp} {a c : Addr} {vs us : List V} {ds es : List PyData} (h : LsAt H (isC f M) a vs) (r : DRs X.K X.w H (isC f M) vs ds) (h2 : LsAt H (isC f M) c us) (r2 : DRs X.K X.w H (isC f M) us es) : ItOk X b f M H (.items (zipD ds es)) (Itz X.K a c) := by
  intro f' M' H' x m
  have h' := h.stay x.st
  have h2' := h2.stay x.st
  refine ⟨fun i y e => ?_, ⟨vs, us, h'.sq, h2'.sq, by simp [zipD, ← r.length, ← r2.length]; omega⟩⟩
  obtain ⟨p, q, e1, e2, rfl⟩ := zip_at e
  obtain ⟨v, e3, rv⟩ := (r.stay x.st).get e1
  obtain ⟨u, e4, ru⟩ := (r2.stay x.st).get e2
  refine ⟨⟨vs, us, v, u, h'.sq, h2'.sq, e3, e4⟩, fun t H2 ⟨T, v', u', e5, hT, e6, e7, e8⟩ => ?_⟩
  subst e5 e6
  have q1 := e7 vs h'.sq
  rw [e3] at q1; cases q1
  have q2 := e8 us h2'.sq
  rw [e4] at q2; cases q2
  exact pair_ok m hT rv ru
theorem itOk_zipT {f : Fm} {M : Mem} {H : Hp} {a c : Addr} {vs us : List V} {ds es : List PyData} (h : TpAt X.K H (isC f M) a vs) (r : DRs X.K X.w H (isC f M) vs ds) (h2 : TpAt X.K H (isC f M) c us) (r2 : DRs X.K X.w H (isC f M) us es) : ItOk X b f M H (.items (zipD ds es)) (RZ.ItzT X.K a c) := by
  intro f' M' H' x m
  have h' := h.stay x.st
  have h2' := h2.stay x.st
  refine ⟨fun i y e => ?_, ⟨vs, us, h'.sq, h2'.sq, by simp [zipD, ← r.length, ← r2.length]; omega⟩⟩
  obtain ⟨p, q, e1, e2, rfl⟩ := zip_at e
  obtain ⟨v, e3, rv⟩ := (r.stay x.st).get e1
  obtain ⟨u, e4, ru⟩ := (r2.stay x.st).get e2
  refine ⟨⟨vs, us, v, u, h'.sq, h2'.sq, e3, e4⟩, fun t H2 ⟨T, v', u', e5, hT, e6, e7, e8⟩ => ?_⟩
  subst e5 e6
  have q1 := e7 vs h'.sq
  rw [e3] at q1; cases q1
  have q2 := e8 us h2'.sq
  rw [e4] at q2; cases q2
  exact pair_ok m hT rv ru
theorem pi_zipc {e e2 : Expr} {run : Sl → K (List Cs.W)} {p pos tpos : Pos} {elts : List Expr} {kk : Nat} (hg : Gl X "zip") (hm : X.mg "zip" = none) (ha : PA X [e, e2] (tRs X Z b run))
    (hs : ∀ a r, a ∈ [e, e2] → starEach (a :: r) X.env = (false, eval a X.env) :: starEach r X.env) :
    PI X (.Tuple elts kk tpos) (.Call (.Name "zip" p) [e, e2] [] pos) (iR X Z b fun σ => (run σ).bnd zipW) := by
  have base := RZ.pi_zipA (tpos := tpos) (elts := elts) (kk := kk) (p := p) (pos := pos) hg hm ha (hs e _ (by simp)) (by rw [hs e2 [] (by simp)]; rfl)
  refine ⟨fun pins s σ H R I h => base.run pins s σ H R I ?_⟩
  obtain ⟨f, σ', M, st, h⟩ := h
  refine ⟨f, σ', M, st, h.bnd.imp (fun ys f1 M1 H1 x1 m1 h vs ry => ?_) fun _ _ _ _ _ _ z => z⟩
  match ys, h with
  | [.d (.list xs), .d (.list ys)], h =>
    obtain ⟨v, u, rfl, rv, ru⟩ := ry.two
    cases (show DR X.K X.w H1 (isC f1 M1) v (.list xs) from rv) with
    | lst h1 r1 =>
      cases (show DR X.K X.w H1 (isC f1 M1) u (.list ys) from ru) with
      | lst h2 r2 => exact ⟨_, _, _, _, rfl, .inl ⟨h1.sq, h2.sq, Then.pur m1 h _ (itOk_zipL h1 r1 h2 r2)⟩⟩
  | [.d (.tuple xs), .d (.tuple ys)], h =>
    obtain ⟨v, u, rfl, rv, ru⟩ := ry.two
    cases (show DR X.K X.w H1 (isC f1 M1) v (.tuple xs) from rv) with
    | tup h1 r1 =>
      cases (show DR X.K X.w H1 (isC f1 M1) u (.tuple ys) from ru) with
      | tup h2 r2 => exact ⟨_, _, _, _, rfl, .inr ⟨h1.sq, h2.sq, Then.pur m1 h _ (itOk_zipT h1 r1 h2 r2)⟩⟩
/-! ### enumerate -/
/-- the tuple at a, each item in a new pair -/
def IteT (K : PySem.W.Frag) (a : Addr) : It :=
  ⟨fun i H => ∃ (xs : List V) (x : V), SqT K H a xs ∧ xs[i]? = some x, fun i H v H' => ∃ T x, v = .ref T ∧ H T = none ∧ H' = upd H T (.tup [.int (i : Nat), x]) ∧ ∀ xs, SqT K H a xs → xs[i]? = some x, fun i H => ∃ xs : List V, SqT K H a xs ∧ xs.length = i⟩
theorem turn_enumT {P : Program} {w : World} {K : PySem.W.Frag} {elts : List Expr} {kk : Nat} {tpos : Pos} (a e it : Addr) :
    Turn P w K (.Tuple elts kk tpos) (IteT K a) [e, it] e (fun i h => (∃ old, IsEnum h e it ((i : Nat) : Int) old) ∧ h.IsTupleIter it a i ∧ e ≠ it ∧ a ≠ it ∧ a ≠ e) where
  mem := by simp
  obj := fun i h st b hb => by
    obtain ⟨⟨old, he⟩, ⟨o, ho, hc, hd⟩, _⟩ := st
    have e' : b = e ∨ b = it := by simpa using hb
    rcases e' with z | z
    · rw [z]; exact ⟨_, he, fun v q => nomatch q⟩
    · rw [z]; exact ⟨o, ho, fun v q => by rw [hd] at q; cases q⟩
  keep := fun i h h' st k => let ⟨⟨old, he⟩, hi, hne⟩ := st; ⟨⟨old, k e (by simp) _ he⟩, hi.at fun o q => k it (by simp) o q, hne⟩
  item := by
    intro X hP hw hK hc i pins s σ H E I hf st hg
    subst hP hw hK
    obtain ⟨⟨old, he⟩, hit, hne, hai, hae⟩ := st
    obtain ⟨xs, x, hq, hx⟩ := hg
    obtain ⟨its, rv, p, hz⟩ := I.tuple hq
    obtain ⟨u, hu, ru⟩ := rv.get hx
    have hel : e < s.heap.objs.size := Heap.lt_size he
    have hil : it < s.heap.objs.size := by obtain ⟨_, q, _⟩ := hit; exact Heap.lt_size q
    have D := Draws.tuple (prog := X.prog) (w := X.w) (A := X.A.in1) (I.ok.hd hc) it a hai its.toArray
    refine wpAny_pyNext_enum_itemC D he ⟨hit, show s.heap.IsTuple a its.toArray from p⟩ (by have := (List.getElem?_eq_some_iff.mp hu).1; simpa using this) hne (by simp [hne, Ne.symm hae]) fun x' h' tk hP ho hit' hT hsz hk => ?_
    have : x' = u := by
      have hP' : its.toArray[i]? = some x' := hP
      simp only [List.getElem?_toArray] at hP'
      rw [hu] at hP'
      cases hP'; rfl
    subst this
    refine ⟨_, rfl, wpAny_letOwnedTupleGo_enum (s := { s with heap := h', toks := tk + 1 }) ho fun h'' he' sb => ?_⟩
    have hT2 : h''.get? s.heap.objs.size = some { cls := .type "tuple", data := .seq #[.int i tk, x'] } := (sb.2 _ (Nat.ne_of_gt hel)).trans hT
    have new : ObjOk X.prog X.w (upd H s.heap.objs.size (.tup [.int (i : Nat), x])) h'' s.heap.objs.size (.tup [.int (i : Nat), x]) :=
      ⟨by show 2 ≤ sizeLine; decide, [.int i tk, x'], .cons ⟨_, rfl⟩ (.cons ru .nil), ⟨_, hT2, rfl, _, rfl⟩⟩
    have I1 : Inv X pins σ (upd H s.heap.objs.size (.tup [.int (i : Nat), x])) { s with heap := h'', toks := tk + 1 } :=
      I.turnedNew (ch := [e, it]) (fun b ob hb q => (sb.2 b (fun z => hb (by simp [z]))).trans (hk b ob (fun z => hb (by simp [z])) (fun z => hb (by simp [z])) q)) hf (Nat.le_refl _) new
    refine ⟨.ref s.heap.objs.size, _, I1, rfl, ⟨_, x, rfl, I.hok.fresh (Nat.le_refl _), rfl, fun ys hy => by rw [I.tuple_inj hy hq]; exact hx⟩, ⟨⟨x', ?_⟩, hit'.1.at fun o q => (sb.2 it (Ne.symm hne)).trans q, hne, hai, hae⟩, fun b hb => ?_⟩
    · have e1 : ((i + 1 : Nat) : Int) = (i : Int) + 1 := by omega
      rw [e1]; exact he'
    · have hb' : b < s.heap.objs.size := by
        have e' : b = e ∨ b = it := by simpa using hb
        rcases e' with z | z
        · rw [z]; exact hel
        · rw [z]; exact hil
      rw [upd_ne (Nat.ne_of_lt hb')]
      exact (hf b hb).1
  done := by
    intro X hP hw hK hc i pins s σ H E I hf st hg
    subst hP hw hK
    obtain ⟨⟨old, he⟩, hit, hne, hai, hae⟩ := st
    obtain ⟨xs, hq, hx⟩ := hg
    obtain ⟨its, rv, p, hz⟩ := I.tuple hq
    obtain ⟨f0, f1, f2, f3, f4, f5⟩ := hf it (by simp)
    have hl := rv.length
    have D := Draws.tuple (prog := X.prog) (w := X.w) (A := X.A.in1) (I.ok.hd hc) it a hai its.toArray
    have hn : i = its.toArray.size := by simp; omega
    subst hn
    exact wpAny_pyNext_enum_endD D he ⟨hit, show s.heap.IsTuple a its.toArray from p⟩ fun h' eb => ⟨rfl, I.turned (t' := s.toks) (fun b o hb q => eb b o hb q) f0 f1 f3 f4 f5⟩
  self := fun A i s Q E st h => let ⟨⟨_, he⟩, _⟩ := st; wpAny_pyIter_enum he h
theorem enum_at {xs : List PyData} {i : Nat} {y : W} (e : (enumD xs)[i]? = some y) : ∃ p, xs[i]? = some p ∧ y = .d (.tuple [.int i, p]) := by
  unfold enumD at e
  rw [List.getElem?_map] at e
  obtain ⟨d, e1, rfl⟩ := Option.map_eq_some_iff.mp e
  rw [List.getElem?_zipIdx] at e1
  obtain ⟨p, e2, rfl⟩ := Option.map_eq_some_iff.mp e1
  exact ⟨p, e2, by simp⟩
theorem itOk_enumL {f : Fm} {M : Mem} {H : Hp} {a : Addr} {vs : List V} {ds : List PyData} (h : LsAt H (isC f M) a vs) (r : DRs X.K X.w H (isC f M) vs ds) : ItOk X b f M H (.items (enumD ds)) (Ite X.K a) := by
  intro f' M' H' x m
  have h' := h.stay x.st
  refine ⟨fun i y e => ?_, ⟨vs, h'.sq, by simp [enumD, ← r.length]⟩⟩
  obtain ⟨p, e1, rfl⟩ := enum_at e
  obtain ⟨v, e3, rv⟩ := (r.stay x.st).get e1
  refine ⟨⟨vs, v, h'.sq, e3⟩, fun t H2 ⟨T, v', e5, hT, e6, e7⟩ => ?_⟩
  subst e5 e6
  have q1 := e7 vs h'.sq
  rw [e3] at q1; cases q1
  exact pair_ok m hT (.int _) rv
theorem itOk_enumT {f : Fm} {M : Mem} {H : Hp} {a : Addr} {vs : List V} {ds : List PyData} (h : TpAt X.K H (isC f M) a vs) (r : DRs X.K X.w H (isC f M) vs ds) : ItOk X b f M H (.items (enumD ds)) (IteT X.K a) := by
  intro f' M' H' x m
  have h' := h.stay x.st
  refine ⟨fun i y e => ?_, ⟨vs, h'.sq, by simp [enumD, ← r.length]⟩⟩
  obtain ⟨p, e1, rfl⟩ := enum_at e
  obtain ⟨v, e3, rv⟩ := (r.stay x.st).get e1
  refine ⟨⟨vs, v, h'.sq, e3⟩, fun t H2 ⟨T, v', e5, hT, e6, e7⟩ => ?_⟩
  subst e5 e6
  have q1 := e7 vs h'.sq
  rw [e3] at q1; cases q1
  exact pair_ok m hT (.int _) rv
set_option maxHeartbeats 1000000 in
theorem meets_enum_newB {v : Value} {o : Obj} {H : Heap → Prop} (B : Begins v o H) :
    Meets (Builtin.«enumerate.__new__» ⟨[.type "enumerate", v], []⟩) (fun _ R s => H s.heap ∧
      R (.ok (.ret (.ref (s.heap.push o).objs.size))) { s with heap := (s.heap.push o).push { cls := .type "enumerate", data := .fields #[.none, .bool false, .ref s.heap.objs.size, rawInt 0, .none, .none] } }) :=
  .of_wp fun prog w A R s h => by
    obtain ⟨hp, g, d, tk, os⟩ := s; obtain ⟨h1, h⟩ := h
    have hsub := sub_enumerate
    have q1 : ∀ {A' : Around} {E : Value → Shared → Prop} {Q : Value → Shared → Prop}, Q (.ref hp.objs.size) ⟨hp.push o, g, d, tk, os⟩ → wpAny (model prog w) A' (pyIter v) Q E ⟨hp, g, d, tk, os⟩ :=
      fun q => B.iter prog w _ _ ⟨hp, g, d, tk, os⟩ _ h1 q
    wp_walk using q1
    refine wpAny_stack_any fun st => wpAny_pure ?_
    split
    · rename_i c _ _ _ _ _
      cases (c == Value.type "enumerate")
      · wp_walk using q1
        exact ⟨_, rfl, h⟩
      · wp_walk using q1
        exact ⟨_, rfl, h⟩
    · wp_walk using q1
      exact ⟨_, rfl, h⟩
theorem enum_begins1 {prog : Program} {w : World} {A : Around} {E : Value → Shared → Prop} {s : Shared} {v : Value} {o : Obj} {H : Heap → Prop} {Q : Value → Shared → Prop} (B : Begins v o H) (h1 : H s.heap)
    (h : ∀ h', IsEnum h' (s.heap.objs.size + 1) s.heap.objs.size 0 .none → h'.get? s.heap.objs.size = some o → h'.objs.size = s.heap.objs.size + 2 →
      (∀ b o, s.heap.get? b = some o → h'.get? b = some o) → Q (.ref (s.heap.objs.size + 1)) { s with heap := h' }) :
    wpAny (model prog w) A (PySem.call (.type "enumerate") [v]) Q E s := by
  refine callType_new F.called_enumerate (by decide) (F.typeCall_enumerate_1 _) (F.newCall_enumerate_1 _) (fun obj => F.args_object_init_2 obj _) F.entry_enumerate_new
    (meets_enum_newB B) ⟨h1, ?_⟩
  have hz : (s.heap.push o).objs.size = s.heap.objs.size + 1 := Heap.size_push ..
  show _ ∧ _
  rw [hz]
  have he : IsEnum ((s.heap.push o).push { cls := .type "enumerate", data := .fields #[.none, .bool false, .ref s.heap.objs.size, rawInt 0, .none, .none] }) (s.heap.objs.size + 1) s.heap.objs.size 0 .none := by
    have := Heap.get?_push_size (s.heap.push o) (o := { cls := .type "enumerate", data := .fields #[.none, .bool false, .ref s.heap.objs.size, rawInt 0, .none, .none] }) rfl
    rw [hz] at this; exact this
  refine ⟨⟨_, he, rfl⟩, h _ he (Heap.get?_push_of_some _ (Heap.get?_push_size _ B.free)) (by rw [Heap.size_push, hz]) fun b o x => Heap.get?_push_of_some _ (Heap.get?_push_of_some _ x)⟩
theorem pi_enumc {e : Expr} {run : Sl → K (List Cs.W)} {p pos tpos : Pos} {elts : List Expr} {kk : Nat} (hg : Gl X "enumerate") (hm : X.mg "enumerate" = none) (ha : PA X [e] (tRs X Z b run))
    (hs : ∀ a r, a ∈ [e] → starEach (a :: r) X.env = (false, eval a X.env) :: starEach r X.env) :
    PI X (.Tuple elts kk tpos) (.Call (.Name "enumerate" p) [e] [] pos) (iR X Z b fun σ => (run σ).bnd enuW) := by
  refine ⟨fun pins s σ H R I h => ?_⟩
  refine Call_ (ld_blt I hg hm boot_enumerate (PyProof.Rows.callWith_type1 (thn (args_rd (J := K.stop) (pos := pos) ha I h) fun us s1 ⟨vs, H1, I1, r1, f1, M1, ys, m1, hb, ry, h⟩ => ?_) (hs e [] (by simp)) rfl))
  have fresh : ∀ c, c = s1.heap.objs.size + 1 ∨ c = s1.heap.objs.size → FpOk X pins H1 c := fun c e' => by
    have hle : s1.heap.objs.size ≤ c := by omega
    exact I1.fpOk hle (I1.hok.fresh hle)
  match ys, h with
  | [.d (.list xs)], h =>
    obtain ⟨v, rfl, rv⟩ := ry.one
    cases (show DR X.K X.w H1 (isC f1 M1) v (.list xs) from rv) with
    | lst h1 r2 =>
      cases r1 with
      | cons r rr =>
        cases rr
        cases r
        obtain ⟨its, rv, p', hz⟩ := I1.list h1.sq
        refine call_enumerate_list p'.isList fun h' he hit hsz hk => wpAny_pyIter_enum he ?_
        have I2 : Inv X pins σ H1 { s1 with heap := h' } := I1.kept (t' := s1.toks) hk
        exact ⟨s1.heap.objs.size + 1, [s1.heap.objs.size + 1, s1.heap.objs.size], _, _, H1, rfl, I2, turn_enum _ (s1.heap.objs.size + 1) s1.heap.objs.size, ⟨⟨.none, he⟩, hit, Nat.succ_ne_self _⟩, fun b hb => fresh b (by simpa using hb), Then.pur m1 h _ (itOk_enumL h1 r2)⟩
  | [.d (.tuple xs)], h =>
    obtain ⟨v, rfl, rv⟩ := ry.one
    cases (show DR X.K X.w H1 (isC f1 M1) v (.tuple xs) from rv) with
    | tup h1 r2 =>
      cases r1 with
      | cons r rr =>
        cases rr
        cases r
        obtain ⟨its, rv, p', hz⟩ := I1.tuple h1.sq
        obtain ⟨o, ho, _⟩ := id p'
        have hlt := Heap.lt_size ho
        refine enum_begins1 (begins_tuple _ its.toArray) (show s1.heap.IsTuple _ its.toArray from p') fun h' he hit hsz hk => wpAny_pyIter_enum he ?_
        have I2 : Inv X pins σ H1 { s1 with heap := h' } := I1.kept (t' := s1.toks) hk
        exact ⟨s1.heap.objs.size + 1, [s1.heap.objs.size + 1, s1.heap.objs.size], _, _, H1, rfl, I2, turn_enumT _ (s1.heap.objs.size + 1) s1.heap.objs.size, ⟨⟨.none, he⟩, ⟨_, hit, rfl, rfl⟩, Nat.succ_ne_self _, Nat.ne_of_lt hlt, Nat.ne_of_lt (Nat.lt_succ_of_lt hlt)⟩, fun b hb => fresh b (by simpa using hb), Then.pur m1 h _ (itOk_enumT h1 r2)⟩
/-! ### d.values() -/
theorem pi_valsc {e : Expr} {run : Sl → K Cs.W} {apos cpos : Pos} (he : PE X e (tR X Z b run)) (hbase : attributeBase e "values" X.env (eval e X.env) = eval e X.env) (hline : (apos.endLine == cpos.line) = true) :
    PI X tg (.Call (.Attribute e "values" apos) [] [] cpos) (iR X Z b fun σ => (run σ).bnd valsW) := by
  refine ⟨fun pins s σ H R I ⟨f, σ', M, st, h⟩ => ?_⟩
  refine wpAny_Call_method (T := "dict") (id := "dict.values") hbase rfl hline F.plainAttrs_dict F.slot_dict_values F.type_dict_values (thn (he.run pins s σ H (fun v H1 => ∃ f1 M1 y, MemOk X.K X.w f1 M1 H1 ∧ b ≤ M1.length ∧ RW X.K X.w f1 M1 H1 v y ∧ Then X.K X.w b f1 M1 H1 (valsW y M1) (fun J f' M' H' => ∀ T, ItOk X b f' M' H' J T → R T H') (erW X Z σ)) I
    ⟨f, σ', M, st, h.bnd.imp (fun y f1 M1 H1 x1 m1 h1 v rv => ⟨f1, M1, y, m1, Nat.le_trans st.base x1.len, rv, h1⟩) fun _ _ _ _ _ _ z => z⟩) fun u s1 ⟨v, H1, I1, rv, f1, M1, y, m1, hb, ry, h⟩ => ?_)
  match y, h with
  | .d (.dict kvs), h =>
    cases (show DR X.K X.w H1 (isC f1 M1) v (.dict kvs) from ry) with
    | dic h1 r k =>
      rename_i a es
      cases rv
      obtain ⟨ns, ep, hx⟩ := h1.ex
      obtain ⟨vs, e1, e2⟩ := r.valsV
      have q2 := Then.pur m1 h (Itdk X.K a es ep vs) (by
        have := itOk_dict (b := b) hx (by have := e1.length; simp at this; omega) e2
        rw [List.map_map] at this
        exact this)
      have hr := hx.e.raw I1
      obtain ⟨o, ho, hxd, hdt⟩ := id hr
      refine ⟨hr.typeIs, fun a' e => by cases e; exact ⟨o, ho, hxd.2.1⟩, ?_⟩
      have I2 : Inv X pins σ H1 { s1 with heap := s1.heap.push { cls := .type "dict_values", data := .fields #[.ref a] } } := I1.kept (t' := s1.toks) fun b ob q => Heap.get?_push_of_some _ q
      have fin : wpAny (model X.prog X.w) X.A (pyIter (.ref s1.heap.objs.size)) (PIE X pins σ tg R) X.xe { s1 with heap := s1.heap.push { cls := .type "dict_values", data := .fields #[.ref a] } } := by
        refine wpAny_pyIter_values_raw (d := a) ⟨_, Heap.get?_push_size _ rfl, rfl, rfl⟩ (hr.at fun o e => Heap.get?_push_of_some _ e) (pi_one (tk := s1.toks) I2 _ (turn_dvals a _ es ep vs e1) ⟨_, Heap.get?_push_size _ rfl, rfl, ?_⟩ q2)
        simp
      show wpAny _ _ (callWith cpos (.builtin "dict.values") [.ref a] [] []) _ X.xe s1
      exact method_meetsIn F.slot_dict_values F.entry_dict_values rfl (PySem.evalArgs_none ⟨rfl, hr.typeIs, F.args_dict_values_1 _, _, meets_dict_values_raw a ns, ⟨_, _, hr⟩, fin⟩)
end
end Cs
set_option Elab.async false
set_option linter.all false
set_option autoImplicit false
set_option maxRecDepth 100000
set_option maxHeartbeats 1000000
/-! Turns of a walk; lists being made. -/
namespace Cs
open PySem L2 PyProof.Rows
theorem K.bnd_assoc {α β γ : Type} (x : K α) (f : α → K β) (g : β → K γ) : (x.bnd f).bnd g = x.bnd fun a => (f a).bnd g := by
  funext m
  unfold K.bnd
  cases x m <;> rfl
theorem K.pur_bnd {α β : Type} (a : α) (f : α → K β) : (K.pur a).bnd f = f a := rfl
section
variable {α β : Type} {G : PySem.W.Frag} {w : World} {b : Nat} {f : Fm} {M : Mem} {H : Hp}
theorem trace {x : K α} {g : α → K β} {r : Res β} (e : r = (x.bnd g) M) (hn : r ≠ .no) : Then G w b f M H (x M) (fun a _ M' _ => r = g a M') (fun e _ M' _ => r = .exc e M') := by
  unfold K.bnd at e
  cases hx : x M with
  | ok a M' => rw [hx] at e; exact fun _ _ _ _ => e
  | exc a M' => rw [hx] at e; exact fun _ _ _ _ => e
  | no => rw [hx] at e; exact absurd e hn
theorem traceQ {x : K α} {g : α → K β} {r : Res β} {er : Exc → Fm → Mem → Hp → Prop} (e : r = ((quiet x).bnd g) M) (hn : r ≠ .no) : Then G w b f M H (x M) (fun a _ M' _ => r = g a M') er := by
  unfold K.bnd quiet at e
  cases hx : x M with
  | ok a M' => rw [hx] at e; exact fun _ _ _ _ => e
  | exc a M' => rw [hx] at e; exact absurd e hn
  | no => rw [hx] at e; exact absurd e hn
theorem traceO {x : Option α} {g : α → K β} {r : Res β} (e : r = ((K.opt x).bnd g) M) (hn : r ≠ .no) : ∃ a, x = some a ∧ r = g a M := by
  cases x with
  | none => exact absurd e hn
  | some a => exact ⟨a, rfl, e⟩
theorem traceL {n : Nat} {g : Cell → K β} {r : Res β} (e : r = ((look n).bnd g) M) (hn : r ≠ .no) : ∃ c, M[n]? = some c ∧ r = g c M := by
  unfold look K.bnd at e
  cases h : M[n]? with
  | none => simp only [h] at e; exact absurd e hn
  | some c => simp only [h] at e; exact ⟨c, rfl, e⟩
theorem Then.ne {r : Res α} {ok : α → Fm → Mem → Hp → Prop} {er : Exc → Fm → Mem → Hp → Prop} (h : Then G w b f M H r ok er) : r ≠ .no := by
  intro e; subst e; exact h
end
/-! ### turns -/
def foldR {S : Type} (body : W → S → K (Bool × S)) : Iter → Nat → Nat → S → K (Bool × S)
  | .items ws, i, _, s => foldI body (ws.drop i) s
  | .live n, i, k, s => foldL body n k i s
def FuelOk : Iter → Nat → Nat → Prop
  | .items ws, i, k => i + k = ws.length
  | .live _, _, _ => True
section
variable {S β : Type} {X : Cx} {b : Nat} {f f1 : Fm} {M M1 : Mem} {H H1 : Hp} {body : W → S → K (Bool × S)} {g : Bool × S → K β} {r : Res β} {s : S} {J : Iter} {T : It} {i k : Nat}
theorem fold_start (e : r = ((foldK body J s).bnd g) M) (hn : r ≠ .no) : ∃ k, FuelOk J 0 k ∧ r = ((foldR body J 0 k s).bnd g) M := by
  cases J with
  | items ws => exact ⟨ws.length, by simp [FuelOk], by simpa [foldR, foldK] using e⟩
  | live n =>
    simp only [foldK, K.bnd_assoc, lenAt] at e
    obtain ⟨c, hc, e⟩ := traceL e hn
    cases c with
    | dic _ => exact absurd e hn
    | obj _ => exact absurd e hn
    | lst us => exact ⟨us.length, trivial, e⟩
theorem fold_turn (ok : ItOk X b f1 M1 H1 J T) (x : Mv f1 M1 H1 f M H) (m : MemOk X.K X.w f M H) (hf : FuelOk J i k) (e : r = ((foldR body J i k s).bnd g) M) (hn : r ≠ .no) :
    (k = 0 ∧ T.stop i H ∧ r = g (true, s) M) ∨ ∃ k' y, k = k' + 1 ∧ FuelOk J (i + 1) k' ∧ T.go i H ∧ (∀ u H2, T.yld i H u H2 → MemOk X.K X.w f M H2 ∧ Ext b f M H f M H2 ∧ RW X.K X.w f M H2 u y) ∧
      r = ((body y s).bnd fun p => (if p.1 then foldR body J (i + 1) k' p.2 else K.pur p).bnd g) M := by
  cases J with
  | items ws =>
    obtain ⟨h1, h2⟩ := ok f M H x m
    have hf : i + k = ws.length := hf
    cases k with
    | zero =>
      have hi : i = ws.length := by omega
      subst hi
      refine .inl ⟨rfl, h2, ?_⟩
      simpa [foldR, foldI, K.pur_bnd] using e
    | succ k =>
      have hi : i < ws.length := by omega
      obtain ⟨g1, g2⟩ := h1 i ws[i] (List.getElem?_eq_getElem hi)
      refine .inr ⟨k, ws[i], rfl, by show _ = _; omega, g1, g2, ?_⟩
      simp only [foldR] at e ⊢
      rw [List.drop_eq_getElem_cons hi] at e
      simp only [foldI, K.bnd_assoc] at e
      exact e
  | live n =>
    cases k with
    | zero =>
      simp only [foldR, foldL, K.bnd_assoc, lenAt] at e
      obtain ⟨c, hc, e⟩ := traceL e hn
      cases c with
      | dic _ => exact absurd e hn
      | obj _ => exact absurd e hn
      | lst us =>
        simp only [K.pur_bnd] at e
        split at e
        · rename_i hl
          obtain ⟨_, h2⟩ := ok f M H us x m hc
          rw [hl] at h2
          exact .inl ⟨rfl, h2, e⟩
        · exact absurd e hn
    | succ k =>
      simp only [foldR, foldL, K.bnd_assoc, turnAt] at e
      obtain ⟨c, hc, e⟩ := traceL e hn
      cases c with
      | dic _ => exact absurd e hn
      | obj _ => exact absurd e hn
      | lst us =>
        obtain ⟨y, hy, e⟩ := traceO e hn
        obtain ⟨h1, _⟩ := ok f M H us x m hc
        obtain ⟨g1, g2⟩ := h1 i y hy
        exact .inr ⟨k, y, rfl, trivial, g1, g2, e⟩
end
/-! ### another frame -/
section
variable {G : PySem.W.Frag} {w : World} {f f' : Fm} {M M' : Mem} {H H' : Hp}
/-- a hidden list is written -/
theorem MemOk.pen (m : MemOk G w f M H) {D : Addr} (hD : f.hid D) (us : List V) : MemOk G w f M (upd H D (.lst us)) ∧ Mv f M H f M (upd H D (.lst us)) := by
  have mv : Mv f M H f M (upd H D (.lst us)) := ⟨Nat.le_refl _, fun _ _ => rfl, fun a o e _ n => ⟨by rw [upd_ne (fun z => n (.inr (by rw [z]; exact hD)))]; exact e, n⟩⟩
  refine ⟨⟨fun n c e => ?_, m.inj, m.vis, fun a ha => ?_, fun P q h => by
    obtain ⟨u, hu, t⟩ := m.hidL D hD
    exact (m.tab P q h).at_ hu (isHid_noT t) mv.st, m.own⟩, mv⟩
  · have hn : n < M.length := (List.getElem?_eq_some_iff.mp e).1
    exact (m.cell n c e).mv mv (upd_ne fun z => m.vis n hn (by rw [z]; exact hD))
  · by_cases h : a = D
    · exact ⟨.lst us, by rw [h, upd_same], trivial⟩
    · obtain ⟨vs, e, hd⟩ := m.hidL a ha
      exact ⟨vs, by rw [upd_ne h]; exact e, hd⟩
theorem Ext.pen {b : Nat} {f1 : Fm} {M1 : Mem} {H1 : Hp} (x : Ext b f1 M1 H1 f M H) {D : Addr} (hD : H1 D = none) (us : List V) : Ext b f1 M1 H1 f M (upd H D (.lst us)) :=
  ⟨x.len, x.same, fun a o e t n => by rw [upd_ne (ne_of_none e hD)]; exact x.keepV a o e t n, x.new, x.pres, x.hidU, x.hidN, x.sameT⟩
end
section
variable {G : PySem.W.Frag} {w : World} {b : Nat} {f1 f : Fm} {M1 M : Mem} {H1 H : Hp} {D : Addr}
/-- a new thing that nothing names -/
theorem MemOk.hide (m : MemOk G w f1 M1 H1) (hD : H1 D = none) {o : HO} (ho : isHid o) : MemOk G w ⟨f1.at_, fun a => a = D ∨ f1.hid a, f1.tn⟩ M1 (upd H1 D o) ∧ Ext b f1 M1 H1 ⟨f1.at_, fun a => a = D ∨ f1.hid a, f1.tn⟩ M1 (upd H1 D o) := by
  have x : Ext b f1 M1 H1 ⟨f1.at_, fun a => a = D ∨ f1.hid a, f1.tn⟩ M1 (upd H1 D o) :=
    ⟨Nat.le_refl _, fun _ _ => rfl, fun a u e _ _ => by rw [upd_ne (ne_of_none e hD)]; exact e, fun n h1 h2 => absurd h2 (by omega), fun _ _ h => h, fun _ h => .inr h, fun a h => h.elim (fun e => .inr (by rw [e]; exact fre_none hD)) .inl, rfl⟩
  refine ⟨⟨fun n c e => ?_, m.inj, fun n hn h => ?_, fun a ha => ?_, fun P q h => (m.tab P q h).fresh hD x.stay, m.own⟩, x⟩
  · have hn : n < M1.length := (List.getElem?_eq_some_iff.mp e).1
    obtain ⟨u, q⟩ := m.tracked hn
    exact (m.cell n c e).ext x rfl (upd_ne (ne_of_none q hD))
  · obtain ⟨u, q⟩ := m.tracked hn
    rcases h with h | h
    · exact ne_of_none q hD h
    · exact m.vis n hn h
  · rcases ha with e | ha
    · exact ⟨o, by rw [e, upd_same], ho⟩
    · obtain ⟨vs, e, hd⟩ := m.hidL a ha
      exact ⟨vs, by rw [upd_ne (ne_of_none e hD)]; exact e, hd⟩
/-- it is made, and is data -/
theorem MemOk.show_ (m1 : MemOk G w f1 M1 H1) (m : MemOk G w f M H) (x : Ext b f1 M1 H1 f M H) : MemOk G w ⟨f.at_, f1.hid, f1.tn⟩ M H ∧ Ext b f1 M1 H1 ⟨f.at_, f1.hid, f1.tn⟩ M H ∧ Mv f M H ⟨f.at_, f1.hid, f1.tn⟩ M H := by
  have mv : Mv f M H ⟨f.at_, f1.hid, f1.tn⟩ M H := .less (Nat.le_refl _) (fun _ _ => rfl) fun a h => h.elim .inl fun q => .inr (x.hidU a q)
  exact ⟨⟨fun n c e => (m.cell n c e).mv mv rfl, m.inj, fun n hn h => m.vis n hn (x.hidU _ h), fun a ha => m.hidL a (x.hidU a ha), fun P q h => (m.tab P q (by rw [x.sameT]; exact h)).stay mv.st fun _ e => e, m1.own⟩, ⟨x.len, x.same, x.keepV, x.new, x.pres, fun _ h => h, fun _ h => .inl h, rfl⟩, mv⟩
/-- it is finished and stands as o: data -/
theorem MemOk.showD (m1 : MemOk G w f1 M1 H1) (m : MemOk G w f M H) (x : Ext b f1 M1 H1 f M H) (hD : H1 D = none) (hh : f.hid D) (o : HO) :
    MemOk G w ⟨f.at_, f1.hid, f1.tn⟩ M (upd H D o) ∧ Ext b f1 M1 H1 ⟨f.at_, f1.hid, f1.tn⟩ M (upd H D o) ∧ Mv f M H ⟨f.at_, f1.hid, f1.tn⟩ M (upd H D o) ∧ ¬ isC ⟨f.at_, f1.hid, f1.tn⟩ M D := by
  have nD : ∀ {a : Addr} {o' : HO}, f1.hid a → a ≠ D := fun {a o'} h z => by
    obtain ⟨us, q, _⟩ := m1.hidL _ h
    rw [z, hD] at q; cases q
  have mv : Mv f M H ⟨f.at_, f1.hid, f1.tn⟩ M (upd H D o) := ⟨Nat.le_refl _, fun _ _ => rfl, fun a u e _ n => ⟨by rw [upd_ne (fun z => n (.inr (by rw [z]; exact hh)))]; exact e, fun h => n (h.elim .inl fun q => .inr (x.hidU a q))⟩⟩
  refine ⟨⟨fun n c e => ?_, m.inj, fun n hn h => m.vis n hn (x.hidU _ h), fun a ha => ?_, fun P q h => by
    obtain ⟨u, hu, t⟩ := m.hidL D hh
    exact (m.tab P q (by rw [x.sameT]; exact h)).at_ hu (isHid_noT t) mv.st, m1.own⟩, ⟨x.len, x.same, fun a u e t n => by rw [upd_ne (ne_of_none e hD)]; exact x.keepV a u e t n, x.new, x.pres, fun _ h => h, fun _ h => .inl h, rfl⟩, mv, fun hc => ?_⟩
  · have hn : n < M.length := (List.getElem?_eq_some_iff.mp e).1
    exact (m.cell n c e).mv mv (upd_ne fun z => m.vis n hn (by rw [z]; exact hh))
  · obtain ⟨vs, e, hd⟩ := m.hidL a (x.hidU a ha)
    exact ⟨vs, by rw [upd_ne (nD (o' := o) ha)]; exact e, hd⟩
  · rcases hc with ⟨n, hn, q⟩ | q
    · exact m.vis n hn (by rw [show f.at_ n = D from q]; exact hh)
    · exact nD (o' := o) q rfl
theorem upd_id {o : HO} (e : H D = some o) : upd H D o = H := by
  funext a
  by_cases h : a = D
  · rw [h, upd_same, e]
  · rw [upd_ne h]
/-- it is finished and stands as o: a cell -/
theorem MemOk.adopt (m1 : MemOk G w f1 M1 H1) (m : MemOk G w f M H) (x : Ext b f1 M1 H1 f M H) (hb : b ≤ M1.length) (hD : H1 D = none) (hh : f.hid D) {o : HO} {c : Cell}
    (hc : ∀ f' M' H', Mv f M H f' M' H' → H' D = some o → CellOk G w f' M' H' D c) :
    MemOk G w ⟨fun n => if n = M.length then D else f n, f1.hid, f1.tn⟩ (M ++ [c]) (upd H D o) ∧ Ext b f1 M1 H1 ⟨fun n => if n = M.length then D else f n, f1.hid, f1.tn⟩ (M ++ [c]) (upd H D o) := by
  have hlen := x.len
  have at_ : ∀ n, n < M.length → (if n = M.length then D else f n) = f n := fun n hn => if_neg (by omega)
  have nD : ∀ {a : Addr}, f1.hid a → a ≠ D := fun {a} h z => by
    obtain ⟨us, q, _⟩ := m1.hidL _ h
    rw [z, hD] at q; cases q
  have mv : Mv f M H ⟨fun n => if n = M.length then D else f n, f1.hid, f1.tn⟩ (M ++ [c]) (upd H D o) := by
    refine ⟨by simp, at_, fun a u e _ n => ⟨by rw [upd_ne (fun z => n (.inr (by rw [z]; exact hh)))]; exact e, fun h => n ?_⟩⟩
    rcases h with ⟨k, hk, q⟩ | q
    · have hn' : k < M.length + 1 := by simpa using hk
      have q' : (if k = M.length then D else f k) = a := q
      by_cases h1 : k = M.length
      · rw [if_pos h1] at q'
        rw [← q']; exact .inr hh
      · rw [if_neg h1] at q'
        exact .inl ⟨k, by omega, q'⟩
    · exact .inr (x.hidU a q)
  refine ⟨⟨fun n c' q => ?_, fun i j hi hj q => ?_, fun n hn h => ?_, fun a ha => ?_, fun P q h => by
    obtain ⟨u, hu, t⟩ := m.hidL D hh
    exact (m.tab P q (by rw [x.sameT]; exact h)).at_ hu (isHid_noT t) mv.st, m1.own⟩, ⟨by simp; omega, fun n hn => ?_, fun a u e t n => by rw [upd_ne (ne_of_none e hD)]; exact x.keepV a u e t n, fun n h1 h2 => ?_, fun k hk h n c' hn q => ?_, fun _ h => h, fun _ h => .inl h, rfl⟩⟩
  · have hn : n < M.length + 1 := by have := (List.getElem?_eq_some_iff.mp q).1; simpa using this
    show CellOk G w _ _ _ (if n = M.length then D else f n) c'
    by_cases h1 : n = M.length
    · subst h1
      rw [if_pos rfl]
      rw [List.getElem?_append_right (Nat.le_refl _)] at q
      simp at q
      subst q
      exact hc _ _ _ mv upd_same
    · rw [if_neg h1]
      rw [List.getElem?_append_left (by omega)] at q
      exact (m.cell n c' q).mv mv (upd_ne fun z => m.vis n (by omega) (by rw [z]; exact hh))
  · have hne : ∀ n, n < M.length → f n ≠ D := fun n hn z => m.vis n hn (by rw [z]; exact hh)
    have hi' : i < M.length + 1 := by simpa using hi
    have hj' : j < M.length + 1 := by simpa using hj
    have q' : (if i = M.length then D else f i) = (if j = M.length then D else f j) := q
    by_cases h1 : i = M.length
    · by_cases h2 : j = M.length
      · omega
      · rw [if_pos h1, if_neg h2] at q'
        exact absurd q'.symm (hne j (by omega))
    · by_cases h2 : j = M.length
      · rw [if_neg h1, if_pos h2] at q'
        exact absurd q' (hne i (by omega))
      · rw [if_neg h1, if_neg h2] at q'
        exact m.inj i j (by omega) (by omega) q'
  · have hn' : n < M.length + 1 := by simpa using hn
    have h' : f1.hid (if n = M.length then D else f n) := h
    by_cases h1 : n = M.length
    · rw [if_pos h1] at h'
      exact nD h' rfl
    · rw [if_neg h1] at h'
      exact m.vis n (by omega) (x.hidU _ h')
  · obtain ⟨vs, e, hd⟩ := m.hidL a (x.hidU a ha)
    exact ⟨vs, by rw [upd_ne (nD ha)]; exact e, hd⟩
  · show (if n = M.length then D else f n) = f1 n
    rw [at_ n (by omega)]
    exact x.same n hn
  · show fre H1 (if n = M.length then D else f n)
    by_cases h3 : n = M.length
    · rw [if_pos h3]; exact fre_none hD
    · rw [if_neg h3]
      exact x.new n h1 (by simp at h2; omega)
  · by_cases h1 : n < M.length
    · rw [List.getElem?_append_left h1] at q
      exact x.pres k hk h n c' hn q
    · omega
end
end Cs
set_option Elab.async false
set_option linter.all false
set_option autoImplicit false
set_option maxRecDepth 100000
set_option maxHeartbeats 1000000
/-! Comprehensions. -/
namespace Cs
open PySem L2 PyProof.Rows
/-- no exception is wanted -/
def Z0 : WX := fun _ _ _ _ => False
/-- a test's reading -/
def tT (X : Cx) (Z : WX) (b : Nat) (run : Sl → K Bool) : TT := fun σV H Q => ∃ f σ M, Stt X b f σ M σV H ∧ Then X.K X.w b f M H (run σ M) (fun t f' M' H' => Q t H') (erW X Z σV)
theorem wipeV_get (σ : L2.St) (i : Nat) : ∀ vs : List Nat, (L2.wipe σ vs)[i]? = if i ∈ vs then (if i < σ.length then some none else none) else σ[i]?
  | [] => by simp [L2.wipe]
  | v :: vs => by
    unfold L2.wipe
    by_cases h : v = i
    · subst h
      by_cases hl : v < σ.length
      · rw [List.getElem?_set_self (by rw [L2.wipe_length]; exact hl)]; simp [hl]
      · rw [List.getElem?_eq_none (by simp [L2.wipe_length]; omega)]; simp [hl]
    · rw [List.getElem?_set_ne h, wipeV_get σ i vs]
      simp [Ne.symm h]
theorem wipe_length (σ : Sl) : ∀ vs : List Nat, (wipe σ vs).length = σ.length
  | [] => rfl
  | v :: vs => by unfold wipe; rw [List.length_set, wipe_length σ vs]
theorem wipe_get (σ : Sl) (i : Nat) : ∀ vs : List Nat, (wipe σ vs)[i]? = if i ∈ vs then (if i < σ.length then some none else none) else σ[i]?
  | [] => by simp [wipe]
  | v :: vs => by
    unfold wipe
    by_cases h : v = i
    · subst h
      by_cases hl : v < σ.length
      · rw [List.getElem?_set_self (by rw [wipe_length]; exact hl)]; simp [hl]
      · rw [List.getElem?_eq_none (by simp [wipe_length]; omega)]; simp [hl]
    · rw [List.getElem?_set_ne h, wipe_get σ i vs]
      simp [Ne.symm h]
theorem SlR.wipe {G : PySem.W.Frag} {w : World} {f : Fm} {M : Mem} {H : Hp} {σV : L2.St} {σ : Sl} (s : SlR G w f M H σV σ) (vs : List Nat) : SlR G w f M H (L2.wipe σV vs) (Cs.wipe σ vs) := by
  refine ⟨by rw [L2.wipe_length, wipe_length]; exact s.1, fun i x e => ?_⟩
  rw [wipe_get] at e
  rw [wipeV_get]
  by_cases h : i ∈ vs
  · rw [if_pos h] at e
    split at e <;> cases e
  · rw [if_neg h] at e ⊢
    exact s.2 i x e
theorem wipe_wipe {l vs : List Nat} {σ σ2 : L2.St} (h : Sam l (L2.wipe σ vs) σ2) (hl : ∀ i ∈ l, i ∈ vs) : L2.wipe σ2 vs = L2.wipe σ vs := by
  apply List.ext_getElem?
  intro i
  have hn : σ2.length = σ.length := by rw [h.1, L2.wipe_length]
  rw [wipeV_get, wipeV_get]
  by_cases hi : i ∈ vs
  · rw [if_pos hi, if_pos hi, hn]
  · rw [if_neg hi, if_neg hi, h.2 i fun z => hi (hl i z), wipeV_get, if_neg hi]
theorem traceI {α β : Type} {c : Prop} [Decidable c] {x : K α} {g : α → K β} {r : Res β} {M : Mem} (e : r = ((if c then x else K.stop).bnd g) M) (hn : r ≠ .no) : c ∧ r = (x.bnd g) M := by
  by_cases h : c
  · rw [if_pos h] at e; exact ⟨h, e⟩
  · rw [if_neg h] at e; exact absurd e hn
section
variable {X : Cx} {Z : WX} {b : Nat} {σV : L2.St}
/-- the end of a comprehension -/
theorem lst_end {k : Bool} {f1 f : Fm} {M1 M : Mem} {H1 H : Hp} {D : Addr} {acc : List W} {vs : List V} {Q : VK} {er : Exc → Fm → Mem → Hp → Prop} (m1 : MemOk X.K X.w f1 M1 H1) (hb : b ≤ M1.length) (hD : H1 D = none) (x : Ext b f1 M1 H1 f M H) (m : MemOk X.K X.w f M H) (hh : f.hid D)
    (e : H D = some (.lst vs)) (r : RWs X.K X.w f M H vs acc) (h : Then X.K X.w b f1 M1 H1 (lstW k acc M) (fun z f' M' H' => ∀ v, RW X.K X.w f' M' H' v z → Q v H') er) : Q (.ref D) H := by
  unfold lstW at h
  split at h
  · rename_i hl
    cases k with
    | true =>
      obtain ⟨m', x'⟩ := MemOk.adopt m1 m x hb hD hh (o := .lst vs) (c := .lst acc) fun f' M' H' mv e' => ⟨vs, e', r.mv mv, hl⟩
      rw [upd_id e] at m' x'
      exact h _ _ x' m' (.ref D) ⟨by simp, by show V.ref D = .ref (if M.length = M.length then D else f M.length); rw [if_pos rfl]⟩
    | false =>
      obtain ⟨m', x', mv⟩ := MemOk.show_ m1 m x
      cases hx : acc.mapM W.dat with
      | none =>
        simp only [hx, Bool.false_eq_true, if_false] at h
        exact h.elim
      | some xs =>
        simp only [hx, Bool.false_eq_true, if_false] at h
        have := mapM_data hx
        subst this
        refine h _ _ x' m' (.ref D) (.lst ⟨.inl e, fun hc => ?_⟩ (RWs.data.1 (r.mv mv)))
        rcases hc with ⟨n, hn, q⟩ | q
        · exact m.vis n hn (by rw [show f.at_ n = D from q]; exact hh)
        · obtain ⟨us, z, _⟩ := m1.hidL _ q
          rw [hD] at z; cases z
  · exact h.elim
theorem tLc_of {own : List Nat} {p : Pt} {ri : Sl → K Iter} {rt : Sl → K Bool} {re : Sl → K Cs.W} {k : Bool} (hp : ∀ i ∈ asgdP p, i ∈ own) {H : Hp} {Q : VK}
    (h : tR X Z b (fun σ => (ri σ).bnd fun J => (foldK (cBody own p rt re σ) J []).bnd fun r => lstW k r.2) σV H Q) :
    tLc (iR X Z b ri) (gP X.K p) (tT X Z0 b rt) (tR X Z0 b re) own σV H Q := by
  obtain ⟨f, σ, M, st, h⟩ := h
  refine ⟨f, σ, M, st, h.bnd.imp (fun J f1 M1 H1 x1 m1 h1 T ok => ?_) fun _ _ _ _ _ _ z => z⟩
  intro D hD
  have st1 := st.ext x1 m1
  have hn := h1.ne
  obtain ⟨k0, hf0, e0⟩ := fold_start rfl hn
  generalize ((foldK (cBody own p rt re σ) J []).bnd fun r => lstW k r.2) M1 = r0 at h1 hn e0
  obtain ⟨m2, x2⟩ := m1.hide (b := b) hD (o := .lst []) trivial
  refine ⟨fun i n H' => FuelOk J i n ∧ ∃ f' M' acc vs, Ext b f1 M1 H1 f' M' H' ∧ MemOk X.K X.w f' M' H' ∧ f'.hid D ∧ H' D = some (.lst vs) ∧ RWs X.K X.w f' M' H' vs acc ∧ SlR X.K X.w f' M' H' σV σ ∧
    r0 = ((foldR (cBody own p rt re σ) J i n acc).bnd fun r => lstW k r.2) M', ⟨k0, hf0, _, M1, [], [], x2, m2, .inl rfl, upd_same, trivial, st1.sl.ext x2, e0⟩, ?_⟩
  rintro i n H' ⟨hf, f', M', acc, vs, x', m', hh, eD, racc, sl, e⟩
  rcases fold_turn ok x'.mv m' hf e hn with ⟨_, hs, e⟩ | ⟨n', y, rfl, hf', hg, hy, e⟩
  · refine .inl ⟨hs, ?_⟩
    rw [e] at h1
    exact lst_end m1 st1.base hD x' m' hh eD racc h1
  · refine .inr ⟨hg, fun H2 => FuelOk J (i + 1) n' ∧ ∃ f' M' acc vs, Ext b f1 M1 H1 f' M' H2 ∧ MemOk X.K X.w f' M' H2 ∧ f'.hid D ∧ H2 D = some (.lst vs) ∧ RWs X.K X.w f' M' H2 vs acc ∧ SlR X.K X.w f' M' H2 σV σ ∧
      r0 = ((foldR (cBody own p rt re σ) J (i + 1) n' acc).bnd fun r => lstW k r.2) M', fun H2 q => ⟨n', Nat.lt_succ_self _, q⟩, fun u H2 hu => ?_⟩
    obtain ⟨m3, x3, ru⟩ := hy u H2 hu
    have hb' : b ≤ M'.length := Nat.le_trans st1.base x'.len
    unfold cBody at e
    simp only [K.bnd_assoc] at e
    obtain ⟨σ', hbind, e⟩ := traceO e hn
    refine gP_ok hbind ((sl.ext x3).wipe own) ru fun σ2 s2 same => ⟨wipe_wipe same hp, ?_⟩
    refine ⟨f', σ', M', ⟨m3, hb', s2⟩, (traceQ e hn).imp (fun t f4 M4 H4 x4 m4 e4 => ?_) fun _ _ _ _ _ _ z => z⟩
    have kD : ∀ {fa : Fm} {Ma : Mem} {Ha : Hp} {fb : Fm} {Mb : Mem} {Hb : Hp}, Ext b fa Ma Ha fb Mb Hb → MemOk X.K X.w fa Ma Ha → fa.hid D → Ha D = some (.lst vs) → Hb D = some (.lst vs) ∧ fb.hid D := fun xx mm h1 h2 =>
      ⟨xx.keepV D _ h2 (fun ps z => by cases z) fun n hn z => mm.vis n hn (by rw [z]; exact h1), xx.hidU D h1⟩
    obtain ⟨eD3, hh3⟩ := kD x3 m' hh eD
    obtain ⟨eD4, hh4⟩ := kD x4 m3 hh3 eD3
    cases t with
    | false =>
      simp only [Bool.false_eq_true, if_false, K.bnd_assoc, K.pur_bnd] at e4 ⊢
      exact ⟨hf', f4, M4, acc, vs, (x'.trans m' x3).trans m3 x4, m4, hh4, eD4, (racc.ext x3).ext x4, (sl.ext x3).ext x4, e4⟩
    | true =>
      simp only [if_true, K.bnd_assoc] at e4 ⊢
      refine ⟨f4, σ', M4, ⟨m4, Nat.le_trans hb' x4.len, s2.ext x4⟩, (traceQ e4 hn).imp (fun z f5 M5 H5 x5 m5 e5 => ?_) fun _ _ _ _ _ _ z => z⟩
      intro v rv
      obtain ⟨hl, e5⟩ := traceI e5 hn
      obtain ⟨eD5, hh5⟩ := kD x5 m4 hh4 eD4
      have r5 := ((racc.ext x3).ext x4).ext x5
      refine ⟨vs, eD5, by rw [r5.length]; exact hl, hf', f5, M5, acc ++ [z], vs ++ [v], ?_⟩
      obtain ⟨m6, mv⟩ := m5.pen hh5 (vs ++ [v])
      exact ⟨((((x'.trans m' x3).trans m3 x4).trans m4 x5)).pen hD _, m6, hh5, upd_same, (r5.append (xs := [z]) (us := [v]) ⟨rv, trivial⟩).mv mv, (((sl.ext x3).ext x4).ext x5).mv mv, e5⟩
theorem tLc2_of {own : List Nat} {p p2 : Pt} {ri ri2 : Sl → K Iter} {re : Sl → K Cs.W} {k : Bool} (hp : ∀ i ∈ asgdP p, i ∈ own) {H : Hp} {Q : VK}
    (h : tR X Z b (fun σ => (ri σ).bnd fun J => (foldK (cBody2 own p p2 ri2 re σ) J []).bnd fun r => lstW k r.2) σV H Q) :
    tLc2 (iR X Z b ri) (gP X.K p) tYes (iR X Z0 b ri2) (gP X.K p2) tYes (tR X Z0 b re) own (asgdP p2) σV H Q := by
  obtain ⟨f, σ, M, st, h⟩ := h
  refine ⟨f, σ, M, st, h.bnd.imp (fun J f1 M1 H1 x1 m1 h1 T ok => ?_) fun _ _ _ _ _ _ z => z⟩
  intro D hD
  have st1 := st.ext x1 m1
  have hn := h1.ne
  obtain ⟨k0, hf0, e0⟩ := fold_start rfl hn
  generalize ((foldK (cBody2 own p p2 ri2 re σ) J []).bnd fun r => lstW k r.2) M1 = r0 at h1 hn e0
  obtain ⟨m2, x2⟩ := m1.hide (b := b) hD (o := .lst []) trivial
  have kD : ∀ {vs : List V} {fa : Fm} {Ma : Mem} {Ha : Hp} {fb : Fm} {Mb : Mem} {Hb : Hp}, Ext b fa Ma Ha fb Mb Hb → MemOk X.K X.w fa Ma Ha → fa.hid D → Ha D = some (.lst vs) → Hb D = some (.lst vs) ∧ fb.hid D := fun xx mm h1 h2 =>
    ⟨xx.keepV D _ h2 (fun ps z => by cases z) fun n hn z => mm.vis n hn (by rw [z]; exact h1), xx.hidU D h1⟩
  refine ⟨fun i n H' => FuelOk J i n ∧ ∃ f' M' acc vs, Ext b f1 M1 H1 f' M' H' ∧ MemOk X.K X.w f' M' H' ∧ f'.hid D ∧ H' D = some (.lst vs) ∧ RWs X.K X.w f' M' H' vs acc ∧ SlR X.K X.w f' M' H' σV σ ∧
    r0 = ((foldR (cBody2 own p p2 ri2 re σ) J i n acc).bnd fun r => lstW k r.2) M', ⟨k0, hf0, _, M1, [], [], x2, m2, .inl rfl, upd_same, trivial, st1.sl.ext x2, e0⟩, ?_⟩
  rintro i n H' ⟨hf, f', M', acc, vs, x', m', hh, eD, racc, sl, e⟩
  rcases fold_turn ok x'.mv m' hf e hn with ⟨_, hs, e⟩ | ⟨n', y, rfl, hf', hg, hy, e⟩
  · refine .inl ⟨hs, ?_⟩
    rw [e] at h1
    exact lst_end m1 st1.base hD x' m' hh eD racc h1
  · refine .inr ⟨hg, fun H2 => FuelOk J (i + 1) n' ∧ ∃ f' M' acc vs, Ext b f1 M1 H1 f' M' H2 ∧ MemOk X.K X.w f' M' H2 ∧ f'.hid D ∧ H2 D = some (.lst vs) ∧ RWs X.K X.w f' M' H2 vs acc ∧ SlR X.K X.w f' M' H2 σV σ ∧
      r0 = ((foldR (cBody2 own p p2 ri2 re σ) J (i + 1) n' acc).bnd fun r => lstW k r.2) M', fun H2 q => ⟨n', Nat.lt_succ_self _, q⟩, fun u H2 hu => ?_⟩
    obtain ⟨m3, x3, ru⟩ := hy u H2 hu
    have hb' : b ≤ M'.length := Nat.le_trans st1.base x'.len
    unfold cBody2 at e
    simp only [K.bnd_assoc] at e
    obtain ⟨σ', hbind, e⟩ := traceO e hn
    refine gP_ok hbind ((sl.ext x3).wipe own) ru fun σ2 s2 same => ⟨wipe_wipe same hp, ?_⟩
    unfold tYes
    dsimp only
    rw [if_pos rfl]
    have tq := traceQ (G := X.K) (w := X.w) (b := b) (f := f') (H := H2) (er := erW X Z0 σ2) e hn
    refine ⟨f', σ', M', ⟨m3, hb', s2⟩, tq.imp (fun J2 f4 M4 H4 x4 m4 e4 T2 ok2 => ?_) fun _ _ _ _ _ _ z => z⟩
    obtain ⟨eD3, hh3⟩ := kD x3 m' hh eD
    obtain ⟨eD4, hh4⟩ := kD x4 m3 hh3 eD3
    have x14 := (x'.trans m' x3).trans m3 x4
    obtain ⟨k1, hf1, e4⟩ := fold_start e4 hn
    refine ⟨fun j n2 H5 => FuelOk J2 j n2 ∧ ∃ f5 M5 acc vs, Ext b f1 M1 H1 f5 M5 H5 ∧ MemOk X.K X.w f5 M5 H5 ∧ f5.hid D ∧ H5 D = some (.lst vs) ∧ RWs X.K X.w f5 M5 H5 vs acc ∧ Mv f4 M4 H4 f5 M5 H5 ∧
      r0 = ((foldR (cIn p2 re σ') J2 j n2 acc).bnd fun q => (if q.1 then foldR (cBody2 own p p2 ri2 re σ) J (i + 1) n' q.2 else K.pur q).bnd fun r => lstW k r.2) M5, ⟨k1, hf1, f4, M4, acc, vs, x14, m4, hh4, eD4, (racc.ext x3).ext x4, .refl, e4⟩, ?_⟩
    rintro j n2 H5 ⟨hf5, f5, M5, acc, vs, x5, m5, hh5, eD5, racc5, mv5, e5⟩
    have sl5 : SlR X.K X.w f5 M5 H5 σV σ := ((sl.ext x3).ext x4).mv mv5
    have s25 : SlR X.K X.w f5 M5 H5 σ2 σ' := (s2.ext x4).mv mv5
    rcases fold_turn ok2 mv5 m5 hf5 e5 hn with ⟨_, hs2, e5⟩ | ⟨n3, z, rfl, hf6, hg2, hy2, e5⟩
    · refine .inl ⟨hs2, hf', f5, M5, acc, vs, x5, m5, hh5, eD5, racc5, sl5, ?_⟩
      simpa only [if_true] using e5
    · refine .inr ⟨hg2, fun H5 => FuelOk J2 (j + 1) n3 ∧ ∃ f5 M5 acc vs, Ext b f1 M1 H1 f5 M5 H5 ∧ MemOk X.K X.w f5 M5 H5 ∧ f5.hid D ∧ H5 D = some (.lst vs) ∧ RWs X.K X.w f5 M5 H5 vs acc ∧ Mv f4 M4 H4 f5 M5 H5 ∧
      r0 = ((foldR (cIn p2 re σ') J2 (j + 1) n3 acc).bnd fun q => (if q.1 then foldR (cBody2 own p p2 ri2 re σ) J (i + 1) n' q.2 else K.pur q).bnd fun r => lstW k r.2) M5, fun H6 q => ⟨n3, Nat.lt_succ_self _, q⟩, fun u2 H6 hu2 => ?_⟩
      obtain ⟨m6, x6, ru2⟩ := hy2 u2 H6 hu2
      unfold cIn at e5
      simp only [K.bnd_assoc] at e5
      obtain ⟨σ3, hbind2, e5⟩ := traceO e5 hn
      refine gP_ok hbind2 ((s25.ext x6).wipe (asgdP p2)) ru2 fun σ3V s3 same2 => ⟨wipe_wipe same2 fun _ h => h, ?_⟩
      rw [if_pos rfl]
      refine ⟨f5, σ3, M5, ⟨m6, Nat.le_trans st1.base x5.len, s3⟩, (traceQ e5 hn).imp (fun y2 f7 M7 H7 x7 m7 e7 => ?_) fun _ _ _ _ _ _ z => z⟩
      intro v rv
      obtain ⟨hl, e7⟩ := traceI e7 hn
      obtain ⟨eD6, hh6⟩ := kD x6 m5 hh5 eD5
      obtain ⟨eD7, hh7⟩ := kD x7 m6 hh6 eD6
      have r7 := (racc5.ext x6).ext x7
      refine ⟨vs, eD7, by rw [r7.length]; exact hl, hf6, f7, M7, acc ++ [y2], vs ++ [v], ?_⟩
      obtain ⟨m8, mv⟩ := m7.pen hh7 (vs ++ [v])
      exact ⟨((x5.trans m5 x6).trans m6 x7).pen hD _, m8, hh7, upd_same, (r7.append (xs := [y2]) (us := [v]) ⟨rv, trivial⟩).mv mv, ((mv5.trans x6.mv).trans x7.mv).trans mv, e7⟩
end
end Cs
set_option Elab.async false
set_option linter.all false
set_option autoImplicit false
set_option maxRecDepth 100000
set_option maxHeartbeats 1000000
/-! Expressions, one by one. -/
namespace Cs
open PySem L2 PyProof.Rows
section
variable {X : Cx} {Z : WX} {b : Nat} {σV : L2.St}
theorem pe_to {e : Expr} {t t' : TE} (h : PE X e t) (k : ∀ σ H Q, t' σ H Q → t σ H Q) : PE X e t' := ⟨fun pins s σ H Q I w => h.run pins s σ H Q I (k σ H Q w)⟩
theorem pt_to {e : Expr} {t t' : TT} (h : PT X e t) (k : ∀ σ H Q, t' σ H Q → t σ H Q) : PT X e t' := ⟨fun pins s σ H Q I w => h.run pins s σ H Q I (k σ H Q w)⟩
theorem pa_to {e : List Expr} {t t' : TA} (h : PA X e t) (k : ∀ σ H Q, t' σ H Q → t σ H Q) : PA X e t' := ⟨fun pos pins s σ H Q I w => h.run pos pins s σ H Q I (k σ H Q w)⟩
/-- a one-place operation on values -/
def rV (X : Cx) (Z : WX) (b : Nat) (σV : L2.St) (g : Cs.W → K Cs.W) : V → Hp → VK → Prop := fun u H Q => ∃ f M x, MemOk X.K X.w f M H ∧ b ≤ M.length ∧ RW X.K X.w f M H u x ∧ Then X.K X.w b f M H (g x M) (fun z f' M' H' => ∀ v, RW X.K X.w f' M' H' v z → Q v H') (erW X Z σV)
theorem tR.one {ra : Sl → K Cs.W} {g : Cs.W → K Cs.W} {H : Hp} {Q : VK} (h : tR X Z b (fun σ => (ra σ).bnd g) σV H Q) : tR X Z b ra σV H fun u H1 => rV X Z b σV g u H1 Q := by
  obtain ⟨f, σ, M, s, h⟩ := h
  exact ⟨f, σ, M, s, h.bnd.imp (fun x f1 M1 H1 x1 m1 h1 u ru => ⟨f1, M1, x, m1, Nat.le_trans s.base x1.len, ru, h1⟩) fun _ _ _ _ _ _ z => z⟩
theorem p_var {i : Nat} {x : Str} {pos : Pos} (hN : X.N[i]? = some x) (hv : Vis X.env.scope x) (hd : (x == ("__debug__" : Str)) = false) (hcd : (x == ("__classdict__" : Str)) = false) : PE X (.Name x pos) (tR X Z b fun σ => slot σ i) := by
  refine pe_to (pe_var hN hv hd hcd) fun σ H Q ⟨f, σ', M, s, h⟩ => ?_
  have h : Then X.K X.w b f M H (slot σ' i M) (fun y f' M' H' => ∀ v, RW X.K X.w f' M' H' v y → Q v H') (erW X Z σ) := h
  unfold slot at h
  cases e : σ'[i]? with
  | none => simp only [e] at h; exact h.elim
  | some o =>
    cases o with
    | none => simp only [e] at h; exact h.elim
    | some w =>
      simp only [e] at h
      obtain ⟨v, e1, r⟩ := s.sl.2 i w e
      exact ⟨v, e1, h f H .refl s.mem v r⟩
/-- a constant of the module -/
def GlobOk (X : Cx) (x : Str) (d : PyData) : Prop := ∃ u v, X.mg x = some u ∧ RelV v u ∧ ∀ H C, DR X.K X.w H C v d
theorem p_glob {x : Str} {d : PyData} {pos : Pos} {g : Sl → K Cs.W} (hg : Gl X x) (ok : GlobOk X x d) (hd : (x == ("__debug__" : Str)) = false) (e : ∀ σ, g σ = K.pur (W.d d)) : PE X (.Name x pos) (tR X Z b g) := by
  obtain ⟨u, v, h1, h2, h3⟩ := ok
  refine pe_to (pe_glob hg h1 h2 hd) fun σ H Q ⟨f, σ', M, s, h⟩ => ?_
  rw [e] at h
  exact h f H .refl s.mem v (h3 H _)
def conOf : Const → Option PyData
  | .none => some .none
  | .bool b => some (.bool b)
  | .int i => some (.int i)
  | .str x => some (.str x)
  | _ => none
theorem p_con {c : Const} {k : Nat} {d : PyData} {pos : Pos} (e : conOf c = some d) : PE X (.Constant c k pos) (tR X Z b fun _ => K.pur (W.d d)) := by
  cases c <;> simp only [conOf, Option.some.injEq, reduceCtorEq] at e <;> subst e
  · exact pe_to pe_non fun σ H Q ⟨f, σ', M, s, h⟩ => h f H .refl s.mem _ .non
  · exact pe_to pe_bl fun σ H Q ⟨f, σ', M, s, h⟩ => h f H .refl s.mem _ (.bl _)
  · exact pe_to pe_int fun σ H Q ⟨f, σ', M, s, h⟩ => h f H .refl s.mem _ (.int _)
  · exact pe_to pe_str fun σ H Q ⟨f, σ', M, s, h⟩ => h f H .refl s.mem _ (.str _)
def O2.op : O2 → Operator
  | .add => .Add | .sub => .Sub | .mul => .Mult | .fdiv => .FloorDiv | .mod => .Mod | .pow => .Pow
theorem o_op (o : O2) : OpR X (binaryOp o.op) (dOp X b (opD o)) := by
  cases o
  · exact o_add
  · exact o_sub
  · exact o_mul
  · exact o_fdiv
  · exact o_mod
  · exact o_pow
variable {ra rb rc : Sl → K Cs.W} {a e2 e3 : Expr} {pos : Pos}
theorem p_op (o : O2) (ha : PE X a (tR X Z b ra)) (hb : PE X e2 (tR X Z b rb)) :
    PE X (.BinOp a o.op e2 pos) (tR X Z b fun σ => (ra σ).bnd fun x => (rb σ).bnd fun y => (rd x).bnd fun x => (rd y).bnd fun y => K.opt ((opD o x y).map W.d)) := by
  refine pe_to (pe_op (o_op (b := b) o) ha hb) fun σ H Q h => ?_
  have := tR.two (g := fun x y => (rd x).bnd fun x => (rd y).bnd fun y => K.opt ((opD o x y).map W.d)) h
  obtain ⟨f, σ', M, s, h⟩ := this
  exact ⟨f, σ', M, s, h.imp (fun _ _ _ _ _ _ h u ru => let ⟨f, σ', M, s, h⟩ := h u ru; ⟨f, σ', M, s, h.imp (fun _ _ _ _ _ _ h u ru => dOp.of (h u ru)) fun _ _ _ _ _ _ z => z⟩) fun _ _ _ _ _ _ z => z⟩
theorem tR.mono {ra : Sl → K Cs.W} {H : Hp} {Q Q' : VK} (h : tR X Z b ra σV H Q) (k : ∀ v H, Q v H → Q' v H) : tR X Z b ra σV H Q' := by
  obtain ⟨f, σ', M, s, h⟩ := h
  exact ⟨f, σ', M, s, h.imp (fun _ _ _ _ _ _ h u ru => k _ _ (h u ru)) fun _ _ _ _ _ _ z => z⟩
theorem c_cmpR (o : Cm) (hu : X.A.units + 100 < cLine) (ha : PE X a (tR X Z b ra)) (hb : PE X e2 (tR X Z b rb)) :
    PC X o.op a e2 (tR X Z b fun σ => (ra σ).bnd fun x => (rb σ).bnd fun y => (rd x).bnd fun x => (rd y).bnd fun y => K.opt ((cmpD o x y).map fun b => W.d (.bool b))) := by
  refine ⟨fun pins s σ H Q I h => ?_⟩
  have h2 : tOp (dOp X b fun x y => (cmpD o x y).map .bool) (tR X Z b ra) (tR X Z b rb) σ H Q := by
    refine (tR.two (g := fun x y => (rd x).bnd fun x => (rd y).bnd fun y => K.opt ((cmpD o x y).map fun b => W.d (.bool b))) h).mono fun u H1 h => h.mono fun v H2 h => dOp.of (Z := Z) (σV := σ) ?_
    obtain ⟨f, M, x, y, h⟩ := h
    refine ⟨f, M, x, y, ?_⟩
    simpa only [Option.map_map, Function.comp_def] using h
  exact binT ha hb I h2 fun v u s2 x y H2 I2 rx ry q => c_cmp (b := b) o hu pins s2 σ H2 x y v u Q I2 rx ry q
theorem c_kin (neg : Bool) (hu : X.A.units + 100 < cLine) (ha : PE X a (tR X Z b ra)) (hb : PE X e2 (tR X Z b rb)) :
    PC X (if neg then .NotIn else .In) a e2 (tR X Z b fun σ => (ra σ).bnd fun x => (rb σ).bnd fun y => kinW neg x y) := by
  refine ⟨fun pins s σ H Q I h => ?_⟩
  exact binT ha hb I (tR.two h) fun v u s2 x y H2 I2 rx ry q => k_in neg hu pins s2 _ H2 x y v u Q I2 rx ry q
theorem pc_to {op : CmpOp} {t t' : TE} (h : PC X op a e2 t) (k : ∀ σ H Q, t' σ H Q → t σ H Q) : PC X op a e2 t' := ⟨fun pins s σ H Q I w => h.run pins s σ H Q I (k σ H Q w)⟩
/-- a bool that comes out -/
theorem Then.bool {α : Type} {G : PySem.W.Frag} {w : World} {b : Nat} {f : Fm} {M : Mem} {H : Hp} {y : Cs.W} {g : Bool → K α} {ok : α → Fm → Mem → Hp → Prop} {er : Exc → Fm → Mem → Hp → Prop}
    (h : Then G w b f M H ((Cs.bool y).bnd g M) ok er) : ∃ t, y = .d (.bool t) ∧ Then G w b f M H (g t M) ok er := by
  unfold Cs.bool at h
  split at h
  · exact ⟨_, rfl, h⟩
  · exact h.elim
theorem RW.isBl {G : PySem.W.Frag} {w : World} {f : Fm} {M : Mem} {H : Hp} {v : V} {t : Bool} (h : RW G w f M H v (.d (.bool t))) : v = .bl t := by
  cases (show DR G w H (isC f M) v (.bool t) from h); rfl
theorem c_isN {j : Nat} {pos' : Pos} (ha : PE X a (tR X Z b ra)) : PC X .Is a (.Constant .none j pos') (tR X Z b fun σ => (ra σ).bnd fun x => K.pur (W.d (.bool (isNo x)))) := by
  refine pc_to (pc_isN ha) fun σ H Q h => (tR.one h).mono fun v H1 ⟨f, M, x, m, hb, r, h⟩ => h f H1 .refl m _ ?_
  have e : decide (v = V.non) = isNo x := by
    cases x with
    | c n => obtain ⟨_, rfl⟩ := r; simp [isNo]
    | d x => cases (show DR X.K X.w H1 (isC f M) v x from r) <;> simp [isNo]
  rw [e]; exact DR.bl _
theorem c_notN {j : Nat} {pos' : Pos} (ha : PE X a (tR X Z b ra)) : PC X .IsNot a (.Constant .none j pos') (tR X Z b fun σ => (ra σ).bnd fun x => K.pur (W.d (.bool (!isNo x)))) := by
  refine pc_to (pc_notN ha) fun σ H Q h => (tR.one h).mono fun v H1 ⟨f, M, x, m, hb, r, h⟩ => h f H1 .refl m _ ?_
  have e : (!decide (v = V.non)) = !isNo x := by
    cases x with
    | c n => obtain ⟨_, rfl⟩ := r; simp [isNo]
    | d x => cases (show DR X.K X.w H1 (isC f M) v x from r) <;> simp [isNo]
  rw [e]; exact DR.bl _
theorem p_not (ha : PE X a (tR X Z b ra)) : PE X (.UnaryOp .Not a pos) (tR X Z b fun σ => (ra σ).bnd fun x => (bool x).bnd fun t => K.pur (W.d (.bool (!t)))) := by
  refine pe_to (pe_not ha) fun σ H Q h => (tR.one h).mono fun v H1 ⟨f, M, x, m, hb, r, h⟩ => ?_
  obtain ⟨t, rfl, hb2⟩ := h.bool
  exact ⟨t, r.isBl, hb2 f H1 .refl m _ (DR.bl _)⟩
theorem p_and {e3 : Expr} {rest : List Expr} (ha : PE X a (tR X Z b ra)) (hb : PE X (.BoolOp .And (e3 :: rest) pos) (tR X Z b rb)) :
    PE X (.BoolOp .And (a :: e3 :: rest) pos) (tR X Z b fun σ => (ra σ).bnd fun x => (bool x).bnd fun t => if t then (rb σ).bnd fun y => (bool y).bnd fun u => K.pur (W.d (.bool u)) else K.pur (W.d (.bool false))) := by
  refine pe_to (pe_and ha hb) fun σ H Q ⟨f, σ', M, s, h⟩ => ⟨f, σ', M, s, h.bnd.imp (fun x f1 M1 H1 x1 m1 h1 v r => ?_) fun _ _ _ _ _ _ z => z⟩
  obtain ⟨t, rfl, h3⟩ := h1.bool
  clear h1
  refine ⟨t, r.isBl, ?_⟩
  cases t with
  | false => exact h3 f1 H1 .refl m1 _ (DR.bl _)
  | true =>
    simp only [if_true] at h3 ⊢
    refine ⟨f1, σ', M1, s.ext x1 m1, h3.bnd.imp (fun y f2 M2 H2 x2 m2 h2 v r => ?_) fun _ _ _ _ _ _ z => z⟩
    obtain ⟨t, rfl, h4⟩ := h2.bool
    exact h4 f2 H2 .refl m2 v r
theorem p_or {e3 : Expr} {rest : List Expr} (ha : PE X a (tR X Z b ra)) (hb : PE X (.BoolOp .Or (e3 :: rest) pos) (tR X Z b rb)) :
    PE X (.BoolOp .Or (a :: e3 :: rest) pos) (tR X Z b fun σ => (ra σ).bnd fun x => (bool x).bnd fun t => if t then K.pur (W.d (.bool true)) else (rb σ).bnd fun y => (bool y).bnd fun u => K.pur (W.d (.bool u))) := by
  refine pe_to (pe_or ha hb) fun σ H Q ⟨f, σ', M, s, h⟩ => ⟨f, σ', M, s, h.bnd.imp (fun x f1 M1 H1 x1 m1 h1 v r => ?_) fun _ _ _ _ _ _ z => z⟩
  obtain ⟨t, rfl, h3⟩ := h1.bool
  clear h1
  refine ⟨t, r.isBl, ?_⟩
  cases t with
  | true => exact h3 f1 H1 .refl m1 _ (DR.bl _)
  | false =>
    simp only [Bool.false_eq_true, if_false] at h3 ⊢
    refine ⟨f1, σ', M1, s.ext x1 m1, h3.bnd.imp (fun y f2 M2 H2 x2 m2 h2 v r => ?_) fun _ _ _ _ _ _ z => z⟩
    obtain ⟨t, rfl, h4⟩ := h2.bool
    exact h4 f2 H2 .refl m2 v r
theorem p_ite (hc : PT X a (tT X Z b fun σ => (rc σ).bnd bool)) (ha : PE X e2 (tR X Z b ra)) (hb : PE X e3 (tR X Z b rb)) :
    PE X (.IfExp a e2 e3 pos) (tR X Z b fun σ => (rc σ).bnd fun x => (bool x).bnd fun t => if t then ra σ else rb σ) := by
  refine pe_to (pe_ifExp hc ha hb) fun σ H Q ⟨f, σ', M, s, h⟩ => ?_
  rw [show (fun σ => (rc σ).bnd fun x => (bool x).bnd fun t => if t then ra σ else rb σ) σ' = (((rc σ').bnd bool).bnd fun t => if t then ra σ' else rb σ') from by rw [K.bnd_assoc]] at h
  refine ⟨f, σ', M, s, h.bnd.imp (fun t f1 M1 H1 x1 m1 h1 => ?_) fun _ _ _ _ _ _ z => z⟩
  cases t with
  | true => exact ⟨f1, σ', M1, s.ext x1 m1, h1⟩
  | false => exact ⟨f1, σ', M1, s.ext x1 m1, h1⟩
theorem p_neg (ha : PE X a (tR X Z b ra)) : PE X (.UnaryOp .USub a pos) (tR X Z b fun σ => (ra σ).bnd fun x => (rd x).bnd fun x => K.opt ((intOf x).map fun i => W.d (.int (-i)))) := by
  refine pe_to (pe_un un_neg ha) fun σ H Q h => (tR.one h).mono fun v H1 ⟨f, M, x, m, hb, r, h⟩ => ?_
  obtain ⟨d, e, h⟩ := h.rd
  have t := r.dt m e
  cases d with
  | int i =>
    cases (show v = .int i from t)
    exact ⟨i, rfl, h f H1 .refl m _ (DR.int _)⟩
  | _ => exact h.elim
/-! ### tests -/
theorem tT_of {ra : Sl → K Cs.W} {H : Hp} {Q : Bool → Hp → Prop} (h : tT X Z b (fun σ => (ra σ).bnd bool) σV H Q) : tB (tR X Z b ra) σV H Q := by
  obtain ⟨f, σ', M, s, h⟩ := h
  refine ⟨f, σ', M, s, h.bnd.imp (fun x f1 M1 H1 x1 m1 h1 v r => ?_) fun _ _ _ _ _ _ z => z⟩
  unfold Cs.bool at h1
  split at h1
  · exact ⟨_, r.isBl, h1 f1 H1 .refl m1⟩
  · exact h1.elim
theorem t_val {e : Expr} (h : PE X e (tR X Z b ra)) (he : ∀ whole, isTrue e X.env whole = (do let v ← whole; standAt e.pos; holding [v] (truthy v))) : PT X e (tT X Z b fun σ => (ra σ).bnd bool) :=
  pt_to (pt_val h he) fun σ H Q w => tT_of w
theorem t_cmp {op : CmpOp} (h : PC X op a e2 (tR X Z b ra)) (hm : behindInMarks op e2 = false) : PT X (.Compare a [op] [e2] pos) (tT X Z b fun σ => (ra σ).bnd bool) :=
  pt_to (pt_cmp h hm) fun σ H Q w => tT_of w
theorem t_not (h : PT X a (tT X Z b fun σ => (ra σ).bnd bool)) : PT X (.UnaryOp .Not a pos) (tT X Z b fun σ => ((ra σ).bnd fun x => (bool x).bnd fun t => K.pur (W.d (.bool (!t)))).bnd bool) := by
  refine pt_to (pt_not h) fun σ H Q ⟨f, σ', M, s, h⟩ => ?_
  have e : (fun σ => ((ra σ).bnd fun x => (bool x).bnd fun t => K.pur (W.d (.bool (!t)))).bnd bool) σ' = ((ra σ').bnd bool).bnd fun t => K.pur (!t) := by
    simp only [K.bnd_assoc]; rfl
  rw [e] at h
  exact ⟨f, σ', M, s, h.bnd.imp (fun t f1 M1 H1 x1 m1 h1 => h1 f1 H1 .refl m1) fun _ _ _ _ _ _ z => z⟩
theorem t_and {e3 : Expr} {rest : List Expr} (ha : PT X a (tT X Z b fun σ => (ra σ).bnd bool)) (hb : PW X (.BoolOp .And (e3 :: rest) pos) (tT X Z b fun σ => (rb σ).bnd bool)) :
    PW X (.BoolOp .And (a :: e3 :: rest) pos) (tT X Z b fun σ => ((ra σ).bnd fun x => (bool x).bnd fun t => if t then (rb σ).bnd fun y => (bool y).bnd fun u => K.pur (W.d (.bool u)) else K.pur (W.d (.bool false))).bnd bool) := by
  have h0 := pw_and ha hb
  refine ⟨fun wh pins s σ H Q I w => h0.run wh pins s σ H Q I ?_⟩
  obtain ⟨f, σ', M, s, h⟩ := w
  have e : (fun σ => ((ra σ).bnd fun x => (bool x).bnd fun t => if t then (rb σ).bnd fun y => (bool y).bnd fun u => K.pur (W.d (.bool u)) else K.pur (W.d (.bool false))).bnd bool) σ' = ((ra σ').bnd bool).bnd fun t => if t then (rb σ').bnd bool else K.pur false := by
    simp only [K.bnd_assoc]
    congr 1; funext x; congr 1; funext t
    cases t with
    | false => rfl
    | true =>
      simp only [if_true, K.bnd_assoc]
      congr 1; funext y
      funext m; unfold K.bnd; cases bool y m <;> rfl
  rw [e] at h
  refine ⟨f, σ', M, s, h.bnd.imp (fun t f1 M1 H1 x1 m1 h1 => ?_) fun _ _ _ _ _ _ z => z⟩
  cases t with
  | false => exact h1 f1 H1 .refl m1
  | true => exact ⟨f1, σ', M1, s.ext x1 m1, h1⟩
theorem t_or {e3 : Expr} {rest : List Expr} (ha : PT X a (tT X Z b fun σ => (ra σ).bnd bool)) (hb : PW X (.BoolOp .Or (e3 :: rest) pos) (tT X Z b fun σ => (rb σ).bnd bool)) :
    PW X (.BoolOp .Or (a :: e3 :: rest) pos) (tT X Z b fun σ => ((ra σ).bnd fun x => (bool x).bnd fun t => if t then K.pur (W.d (.bool true)) else (rb σ).bnd fun y => (bool y).bnd fun u => K.pur (W.d (.bool u))).bnd bool) := by
  have h0 := pw_or ha hb
  refine ⟨fun wh pins s σ H Q I w => h0.run wh pins s σ H Q I ?_⟩
  obtain ⟨f, σ', M, s, h⟩ := w
  have e : (fun σ => ((ra σ).bnd fun x => (bool x).bnd fun t => if t then K.pur (W.d (.bool true)) else (rb σ).bnd fun y => (bool y).bnd fun u => K.pur (W.d (.bool u))).bnd bool) σ' = ((ra σ').bnd bool).bnd fun t => if t then K.pur true else (rb σ').bnd bool := by
    simp only [K.bnd_assoc]
    congr 1; funext x; congr 1; funext t
    cases t with
    | true => rfl
    | false =>
      simp only [Bool.false_eq_true, if_false, K.bnd_assoc]
      congr 1; funext y
      funext m; unfold K.bnd; cases bool y m <;> rfl
  rw [e] at h
  refine ⟨f, σ', M, s, h.bnd.imp (fun t f1 M1 H1 x1 m1 h1 => ?_) fun _ _ _ _ _ _ z => z⟩
  cases t with
  | true => exact h1 f1 H1 .refl m1
  | false => exact ⟨f1, σ', M1, s.ext x1 m1, h1⟩
theorem t_ite (hc : PT X a (tT X Z b fun σ => (rc σ).bnd bool)) (ha : PT X e2 (tT X Z b fun σ => (ra σ).bnd bool)) (hb : PT X e3 (tT X Z b fun σ => (rb σ).bnd bool)) :
    PT X (.IfExp a e2 e3 pos) (tT X Z b fun σ => ((rc σ).bnd fun x => (bool x).bnd fun t => if t then ra σ else rb σ).bnd bool) := by
  refine ⟨fun pins s σ H Q I ⟨f, σ', M, st, h⟩ => ?_⟩
  have e : (fun σ => ((rc σ).bnd fun x => (bool x).bnd fun t => if t then ra σ else rb σ).bnd bool) σ' = ((rc σ').bnd bool).bnd fun t => if t then (ra σ').bnd bool else (rb σ').bnd bool := by
    simp only [K.bnd_assoc]
    congr 1; funext x; congr 1; funext t
    cases t <;> rfl
  rw [e] at h
  show wpAny _ _ (do if ← isTrue a X.env (eval a X.env) then isTrue e2 X.env (eval e2 X.env) else isTrue e3 X.env (eval e3 X.env)) _ _ s
  refine wpAny_bind (thn (hc.run pins s σ H (fun t H1 => ∃ f1 M1, Stt X b f1 σ' M1 σ H1 ∧ Then X.K X.w b f1 M1 H1 ((if t then (ra σ').bnd bool else (rb σ').bnd bool) M1) (fun t f' M' H' => Q t H') (erW X Z σ)) I
    ⟨f, σ', M, st, h.bnd.imp (fun t f1 M1 H1 x1 m1 h1 => ⟨f1, M1, st.ext x1 m1, h1⟩) fun _ _ _ _ _ _ z => z⟩) fun t s1 ⟨H1, I1, f1, M1, st1, h1⟩ => ?_)
  cases t with
  | true => exact ha.run pins s1 σ H1 Q I1 ⟨f1, σ', M1, st1, h1⟩
  | false => exact hb.run pins s1 σ H1 Q I1 ⟨f1, σ', M1, st1, h1⟩
end
end Cs
set_option Elab.async false
set_option linter.all false
set_option autoImplicit false
set_option maxRecDepth 100000
set_option maxHeartbeats 1000000
/-! Expressions: displays, items, calls of what is built in. -/
namespace Cs
open PySem L2 PyProof.Rows
section
variable {X : Cx} {Z : WX} {b : Nat} {σV : L2.St} {ra rb rc : Sl → K Cs.W} {rs : Sl → K (List Cs.W)} {a e2 e3 : Expr} {es : List Expr} {pos p : Pos}
theorem a_nil : PA X [] (tRs X Z b fun _ => K.pur []) := pa_to pa_nil fun σ H Q ⟨f, σ', M, s, h⟩ => h f H .refl s.mem [] trivial
theorem a_cons (ha : PE X a (tR X Z b ra)) (hr : PA X es (tRs X Z b rs)) (hs : starEach (a :: es) X.env = (false, eval a X.env) :: starEach es X.env) :
    PA X (a :: es) (tRs X Z b fun σ => (ra σ).bnd fun w => (rs σ).bnd fun ws => K.pur (w :: ws)) := by
  refine pa_to (pa_cons ha hr hs) fun σ H Q ⟨f, σ', M, s, h⟩ => ⟨f, σ', M, s, h.bnd.imp (fun y f1 M1 H1 x1 m1 h1 v r => ?_) fun _ _ _ _ _ _ z => z⟩
  refine ⟨f1, σ', M1, s.ext x1 m1, h1.bnd.imp (fun ys f2 M2 H2 x2 m2 h2 vs rs => ?_) fun _ _ _ _ _ _ z => z⟩
  exact h2 f2 H2 .refl m2 (v :: vs) ⟨r.ext x2, rs⟩
/-- arguments, then more -/
theorem tRs.then_ {g : List Cs.W → K Cs.W} {H : Hp} {Q : VK} (h : tR X Z b (fun σ => (rs σ).bnd g) σV H Q) :
    tRs X Z b rs σV H fun vs H1 => ∃ f M ys, MemOk X.K X.w f M H1 ∧ b ≤ M.length ∧ RWs X.K X.w f M H1 vs ys ∧ Then X.K X.w b f M H1 (g ys M) (fun z f' M' H' => ∀ v, RW X.K X.w f' M' H' v z → Q v H') (erW X Z σV) := by
  obtain ⟨f, σ, M, s, h⟩ := h
  exact ⟨f, σ, M, s, h.bnd.imp (fun x f1 M1 H1 x1 m1 h1 u ru => ⟨f1, M1, x, m1, Nat.le_trans s.base x1.len, ru, h1⟩) fun _ _ _ _ _ _ z => z⟩
theorem tRs.mono {H : Hp} {Q Q' : List V → Hp → Prop} (h : tRs X Z b rs σV H Q) (k : ∀ v H, Q v H → Q' v H) : tRs X Z b rs σV H Q' := by
  obtain ⟨f, σ', M, s, h⟩ := h
  exact ⟨f, σ', M, s, h.imp (fun _ _ _ _ _ _ h u ru => k _ _ (h u ru)) fun _ _ _ _ _ _ z => z⟩
theorem p_tup {x1 : Nat} (h : PA X es (tRs X Z b rs)) : PE X (.Tuple es x1 pos) (tR X Z b fun σ => (rs σ).bnd tupW) := by
  refine pe_to (pe_tup h) fun σ H Q h => (tRs.then_ h).mono fun vs H1 ⟨f, M, ys, m, hb, r, h⟩ => ?_
  unfold tupW at h
  split at h
  · rename_i hl
    obtain ⟨z, ez, h2⟩ := Then.opt1 (y := (ys.mapM W.dat).map fun xs => W.d (.tuple xs)) h
    obtain ⟨xs, ex, rfl⟩ := Option.map_eq_some_iff.mp ez
    have := mapM_data ex
    subst this
    refine ⟨by rw [r.length, top_eq]; exact hl, fun p hp => ?_⟩
    obtain ⟨m', x'⟩ := m.lay (b := b) (o := .tup vs) hp
    exact h2 f _ x' m' _ (.tup (.inl ⟨.inl upd_same, m.notC hp⟩) ((RWs.data.1 r).stay x'.stay))
  · exact h.elim
theorem p_lst {k : Bool} (h : PA X es (tRs X Z b rs)) : PE X (.List es pos) (tR X Z b fun σ => (rs σ).bnd (lstW k)) := by
  refine pe_to (pe_lst h) fun σ H Q h => (tRs.then_ h).mono fun vs H1 ⟨f, M, ys, m, hb, r, h⟩ => ?_
  obtain ⟨hl, q⟩ := out_list m hb r h
  exact ⟨by rw [r.length, top_eq]; exact hl, q⟩
theorem p_sub (hu : X.A.units + 100 < cLine) (ha : PE X a (tR X Z b ra)) (hb : PE X e2 (tR X Z b rb)) (hs : PlainIx e2) : PE X (.Subscript a e2 pos) (tR X Z b fun σ => (ra σ).bnd fun x => (rb σ).bnd fun y => subW x y) := by
  refine ⟨fun pins s σ H Q I h => ?_⟩
  exact (pe_ix (x_sub (Z := Z) (b := b) (σV := σ) hu) ha hb hs).run pins s σ H Q I (tR.two h)
/-! ### slices -/
def tO (X : Cx) (Z : WX) (b : Nat) (run : Sl → K (Option Int)) : TO := fun σV H Q => ∃ f σ M, Stt X b f σ M σV H ∧ Then X.K X.w b f M H (run σ M) (fun o f' M' H' => Q o H') (erW X Z σV)
theorem po_to {e : Option Expr} {t t' : TO} (h : PO X e t) (k : ∀ σ H Q, t' σ H Q → t σ H Q) : PO X e t' := ⟨fun pins s σ H Q I w => h.run pins s σ H Q I (k σ H Q w)⟩
theorem o_no : PO X none (tO X Z b fun _ => K.pur none) := po_to po_none fun σ H Q ⟨f, σ', M, s, h⟩ => h f H .refl s.mem
theorem o_yes (ha : PE X a (tR X Z b ra)) : PO X (some a) (tO X Z b fun σ => (ra σ).bnd fun w => (rd w).bnd fun x => K.opt ((intOf x).map some)) := by
  refine po_to (po_some ha) fun σ H Q ⟨f, σ', M, s, h⟩ => ⟨f, σ', M, s, h.bnd.imp (fun y f1 M1 H1 x1 m1 h1 v r => ?_) fun _ _ _ _ _ _ z => z⟩
  obtain ⟨d, e, h2⟩ := h1.rd
  have t := r.dt m1 e
  cases d with
  | int i =>
    cases (show v = .int i from t)
    exact ⟨i, rfl, h2 f1 H1 .refl m1⟩
  | _ => exact h2.elim
theorem p_slc {lo hi : Option Expr} {rl rh : Sl → K (Option Int)} {p2 : Pos} (ha : PE X a (tR X Z b ra)) (hl : PO X lo (tO X Z b rl)) (hh : PO X hi (tO X Z b rh)) :
    PE X (.Subscript a (.Slice lo hi none p2) pos) (tR X Z b fun σ => (ra σ).bnd fun x => (rl σ).bnd fun l => (rh σ).bnd fun h => slcW x l h) := by
  refine pe_to (pe_slice (x_slc (b := b)) ha hl hh) fun σ H Q ⟨f, σ', M, s, h⟩ => ⟨f, σ', M, s, h.bnd.imp (fun y f1 M1 H1 x1 m1 h1 v r => ?_) fun _ _ _ _ _ _ z => z⟩
  refine ⟨f1, σ', M1, s.ext x1 m1, h1.bnd.imp (fun l f2 M2 H2 x2 m2 h2 => ?_) fun _ _ _ _ _ _ z => z⟩
  refine ⟨f2, σ', M2, (s.ext x1 m1).ext x2 m2, h2.bnd.imp (fun u f3 M3 H3 x3 m3 h3 => ?_) fun _ _ _ _ _ _ z => z⟩
  unfold slcW at h3
  obtain ⟨d, e, h4⟩ := h3.rd
  have t := ((r.ext x2).ext x3).dt m3 e
  have hb := (((s.ext x1 m1).ext x2 m2).ext x3 m3).base
  cases d with
  | list xs => exact ⟨f3, M3, _, _, m3, hb, t, rfl, fun f' H' v' x' m' r' => h4 f' H' x' m' v' r'⟩
  | tuple xs => exact ⟨f3, M3, _, _, m3, hb, t, rfl, fun f' H' v' x' m' r' => h4 f' H' x' m' v' r'⟩
  | _ => exact h4.elim
theorem p_rev {k : Nat} {p1 p2 p3 : Pos} (ha : PE X a (tR X Z b ra)) : PE X (.Subscript a (.Slice none none (some (.UnaryOp .USub (.Constant (.int 1) k p1) p2)) p3) pos) (tR X Z b fun σ => (ra σ).bnd revW) := by
  refine pe_to (pe_revL ha) fun σ H Q h => (tR.one h).mono fun v H1 ⟨f, M, x, m, hb, r, h⟩ => ?_
  unfold revW at h
  obtain ⟨d, e, h2⟩ := h.rd
  have t := r.dt m e
  cases d with
  | list xs =>
    obtain ⟨a, vs, rfl, h3, h4⟩ := t
    exact ⟨a, vs, rfl, .inl h3, fun p hp => outD.lst (b := b) (Q := Q) (fun f' H' v' x' m' r' => h2 f' H' x' m' v' r') m h4.reverse hp⟩
  | _ => exact h2.elim
theorem Then.ws {α : Type} {f : Fm} {M : Mem} {H : Hp} {y : Cs.W} {v : V} {g : List Cs.W → K α} {ok : α → Fm → Mem → Hp → Prop} {er : Exc → Fm → Mem → Hp → Prop} (m : MemOk X.K X.w f M H) (r : RW X.K X.w f M H v y)
    (h : Then X.K X.w b f M H ((wsOf y).bnd g M) ok er) : ∃ a vs ws, v = .ref a ∧ Rd H a (.lst vs) ∧ RWs X.K X.w f M H vs ws ∧ Then X.K X.w b f M H (g ws M) ok er := by
  cases y with
  | c n =>
    simp only [wsOf, K.bnd_assoc] at h
    obtain ⟨c, ec, h⟩ := h.look
    obtain ⟨hn, rfl⟩ := r
    have hc := m.cell n c ec
    cases c with
    | dic _ => exact h.elim
    | obj _ => exact h.elim
    | lst ws =>
      obtain ⟨vs, q, r, _⟩ := hc
      exact ⟨_, vs, ws, rfl, .inl q, r, h⟩
  | d x =>
    cases (show DR X.K X.w H (isC f M) v x from r) with
    | lst h1 h2 => exact ⟨_, _, _, rfl, h1.1, RWs.data.2 h2, h⟩
    | _ => exact h.elim
theorem o_cat : OpR X (binaryOp .Add) (rOp X Z b σV catW) := by
  intro pins s σ H x y v u Q I rx ry ⟨f, M, dx, dy, m, hb, r1, r2, h⟩
  unfold catW at h
  obtain ⟨a, vs, ws, rfl, ha, rw1, h⟩ := Then.ws m r1 h
  obtain ⟨c, us, zs, rfl, hc, rw2, h⟩ := Then.ws m r2 h
  obtain ⟨hl, q⟩ := out_list m hb (rw1.append rw2) h
  cases rx
  cases ry
  obtain ⟨its, n, r, _, e1⟩ := rd_lst I ha
  obtain ⟨its2, n2, r2, _, e2⟩ := rd_lst I hc
  have hl : vs.length + us.length ≤ sizeLine := by rw [top_eq, rw1.length, rw2.length]; simpa using hl
  refine PySem.P.add_list e1 e2 ?_ (by rw [List.size_toArray, List.size_toArray, ← r.length, ← r2.length]; exact hl)
  have ea : its.toArray ++ its2.toArray = (its ++ its2).toArray := by simp
  rw [ea]
  exact ⟨.ref _, _, I.lnew (t' := s.toks) (r.append r2) (by rw [List.length_append]; exact hl), rfl, q _ I.fresh⟩
theorem p_cat (ha : PE X a (tR X Z b ra)) (hb : PE X e2 (tR X Z b rb)) : PE X (.BinOp a .Add e2 pos) (tR X Z b fun σ => (ra σ).bnd fun x => (rb σ).bnd fun y => catW x y) := by
  refine ⟨fun pins s σ H Q I h => ?_⟩
  exact (pe_op (o_cat (Z := Z) (b := b) (σV := σ)) ha hb).run pins s σ H Q I (tR.two h)
end
end Cs
set_option Elab.async false
set_option linter.all false
set_option autoImplicit false
set_option maxRecDepth 100000
set_option maxHeartbeats 1000000
/-! Chains; calls of what is built in; methods. -/
namespace Cs
open PySem L2 PyProof.Rows
section
variable {X : Cx} {Z : WX} {b : Nat} {σV : L2.St} {ra rb rc : Sl → K Cs.W} {rs : Sl → K (List Cs.W)} {a e2 e3 : Expr} {es : List Expr} {pos p : Pos}
theorem chain_of (o o' : Cm) {H : Hp} {Q : VK} (h : tR X Z b (fun σ => (ra σ).bnd fun x => (rb σ).bnd fun y => (rd x).bnd fun x => (K.opt y.dat).bnd fun y => (K.opt (cmpD o x y)).bnd fun t =>
      if t then (rc σ).bnd fun z => (rd z).bnd fun z => K.opt ((cmpD o' y z).map fun b => W.d (.bool b)) else K.pur (W.d (.bool false))) σV H Q) :
    tChain (dOp X b fun x y => (cmpD o x y).map .bool) (dOp X b fun x y => (cmpD o' x y).map .bool) (tR X Z b ra) (tR X Z b rb) (tR X Z b rc) σV H Q := by
  obtain ⟨f, σ', M, s, h⟩ := h
  refine ⟨f, σ', M, s, h.bnd.imp (fun x f1 M1 H1 x1 m1 h1 u ru => ?_) fun _ _ _ _ _ _ z => z⟩
  refine ⟨f1, σ', M1, s.ext x1 m1, h1.bnd.imp (fun y f2 M2 H2 x2 m2 h2 v rv => ?_) fun _ _ _ _ _ _ z => z⟩
  have s2 := (s.ext x1 m1).ext x2 m2
  obtain ⟨dx, e1, h3⟩ := h2.rd
  obtain ⟨dy, e2, h4⟩ := h3.opt
  have ey : y = .d dy := by cases y <;> simp [W.dat] at e2; subst e2; rfl
  subst ey
  have rv : DR X.K X.w H2 (isC f2 M2) v dy := rv
  obtain ⟨t, e3, h5⟩ := h4.opt
  have tx := (ru.ext x2).dt m2 e1
  have ty := rv.dt
  refine ⟨f2, M2, dx, dy, .bool t, m2, s2.base, tx, ty, by simp [e3], fun f3 H3 v3 x3 m3 r3 => ?_⟩
  refine ⟨t, by cases r3; rfl, ?_⟩
  cases t with
  | false =>
    cases r3
    exact h5 f3 H3 x3 m3 _ (DR.bl _)
  | true =>
    simp only [if_true] at h5 ⊢
    have h6 : Then X.K X.w b f3 M2 H3 (((rc σ').bnd fun z => (rd z).bnd fun z => K.opt ((cmpD o' dy z).map fun b => W.d (.bool b))) M2) (fun y f' M' H' => ∀ v, RW X.K X.w f' M' H' v y → Q v H') (erW X Z σV) := by
      cases hr : ((rc σ').bnd fun z => (rd z).bnd fun z => K.opt ((cmpD o' dy z).map fun b => W.d (.bool b))) M2 with
      | ok q M' => rw [hr] at h5; exact fun f' H' x' m' => h5 f' H' (x3.trans m3 x') m'
      | exc q M' => rw [hr] at h5; exact fun f' H' x' m' => h5 f' H' (x3.trans m3 x') m'
      | no => rw [hr] at h5; exact h5
    have s3 := s2.ext x3 m3
    refine ⟨f3, σ', M2, s3, h6.bnd.imp (fun z f4 M4 H4 x4 m4 h7 w' rz => ?_) fun _ _ _ _ _ _ z => z⟩
    obtain ⟨dz, e4, h8⟩ := h7.rd
    obtain ⟨q, e5, h9⟩ := h8.opt1
    obtain ⟨t', e6, rfl⟩ := Option.map_eq_some_iff.mp e5
    exact ⟨f4, M4, dy, dz, .bool t', m4, Nat.le_trans s3.base x4.len, ((rv.stay x3.stay).stay x4.stay).dt, rz.dt m4 e4, by simp [e6], fun f' H' v' x' m' r' => h9 f' H' x' m' v' r'⟩
theorem p_chain (o o' : Cm) (hu : X.A.units + 100 < cLine) (ha : PE X a (tR X Z b ra)) (hb : PE X e2 (tR X Z b rb)) (hc : PE X e3 (tR X Z b rc)) (hm : lastMarks [o.op, o'.op] [e2, e3] = false) :
    PE X (.Compare a [o.op, o'.op] [e2, e3] pos) (tR X Z b fun σ => (ra σ).bnd fun x => (rb σ).bnd fun y => (rd x).bnd fun x => (K.opt y.dat).bnd fun y => (K.opt (cmpD o x y)).bnd fun t =>
      if t then (rc σ).bnd fun z => (rd z).bnd fun z => K.opt ((cmpD o' y z).map fun b => W.d (.bool b)) else K.pur (W.d (.bool false))) :=
  pe_to (pe_chain (c_cmp (b := b) o hu) (c_cmp (b := b) o' hu) ha hb hc hm) fun σ H Q h => chain_of o o' h
theorem t_chain (o o' : Cm) (hu : X.A.units + 100 < cLine) (ha : PE X a (tR X Z b ra)) (hb : PE X e2 (tR X Z b rb)) (hc : PE X e3 (tR X Z b rc)) (hm : lastMarks [o.op, o'.op] [e2, e3] = false) :
    PT X (.Compare a [o.op, o'.op] [e2, e3] pos) (tT X Z b fun σ => ((ra σ).bnd fun x => (rb σ).bnd fun y => (rd x).bnd fun x => (K.opt y.dat).bnd fun y => (K.opt (cmpD o x y)).bnd fun t =>
      if t then (rc σ).bnd fun z => (rd z).bnd fun z => K.opt ((cmpD o' y z).map fun b => W.d (.bool b)) else K.pur (W.d (.bool false))).bnd bool) :=
  pt_to (pt_chain (c_cmp (b := b) o hu) (c_cmp (b := b) o' hu) ha hb hc hm) fun σ H Q h => chain_of o o' (tT_of h)
/-! ### calls of what is built in -/
theorem Then.rds {f : Fm} {M : Mem} {H : Hp} {α : Type} (m : MemOk X.K X.w f M H) : ∀ {ys : List Cs.W} {vs : List V} {g : List PyData → K α} {ok : α → Fm → Mem → Hp → Prop} {er : Exc → Fm → Mem → Hp → Prop}, RWs X.K X.w f M H vs ys → Then X.K X.w b f M H ((Cs.rds ys).bnd g M) ok er →
    ∃ xs, DTs X.K X.w H (isC f M) vs xs ∧ Then X.K X.w b f M H (g xs M) ok er
  | [], [], _, _, _, _, h => ⟨[], trivial, h⟩
  | y :: ys, v :: vs, g, ok, er, ⟨r, rr⟩, h => by
    simp only [Cs.rds, K.bnd_assoc] at h
    obtain ⟨x, e, h2⟩ := h.rd
    obtain ⟨xs, t, h3⟩ := Then.rds m rr h2
    exact ⟨x :: xs, ⟨r.dt m e, t⟩, h3⟩
  | [], _ :: _, _, _, _, r, _ => r.elim
  | _ :: _, [], _, _, _, r, _ => r.elim
theorem bOp_of {g : List PyData → Option PyData} {H : Hp} {Q : VK} (h : tRs X Z b rs σV H fun vs H1 => ∃ f M ys, MemOk X.K X.w f M H1 ∧ b ≤ M.length ∧ RWs X.K X.w f M H1 vs ys ∧ Then X.K X.w b f M H1 (((rds ys).bnd fun xs => K.opt ((g xs).map W.d)) M) (fun z f' M' H' => ∀ v, RW X.K X.w f' M' H' v z → Q v H') (erW X Z σV)) :
    tCB (bOp X b g) (tRs X Z b rs) σV H Q := by
  refine h.mono fun vs H1 ⟨f, M, ys, m, hb, r, h⟩ => ?_
  obtain ⟨xs, t, h2⟩ := Then.rds m r h
  obtain ⟨z, e3, h3⟩ := h2.opt1
  obtain ⟨d, e4, rfl⟩ := Option.map_eq_some_iff.mp e3
  exact ⟨f, M, xs, d, m, hb, t, e4, fun f' H' v' x' m' r' => h3 f' H' x' m' v' r'⟩
theorem b_str : CallR X (.type "str") (bOp X b (bltD .str)) := by
  intro pins s σ H vs us Q I r ⟨f, M, xs, d, m, hb, t, e, o⟩
  match xs, e with
  | [.str z], e =>
    simp only [bltD, Option.some.injEq] at e
    subst e
    obtain ⟨v, rfl, t2⟩ := t.one
    cases (show v = .str z from t2)
    exact SkE.call_str_str pins s σ H _ us Q I r ⟨z, rfl, o.at m (.str _)⟩
  | [.int i], e =>
    simp only [bltD] at e
    split at e
    · rename_i hl
      simp only [Option.some.injEq] at e
      subst e
      obtain ⟨v, rfl, t2⟩ := t.one
      cases (show v = .int i from t2)
      exact call_str_int pins s σ H _ us Q I r ⟨i, rfl, hl, o.at m (.str _)⟩
    · cases e
def bltName : Bl → Str
  | .len => "len" | .int => "int" | .str => "str" | .all => "all" | .any => "any" | .tup => "tuple" | .lst => "list" | .sorted => "sorted" | .min => "min" | .max => "max" | .dict => "dict"
def bltHere : Bl → Bool
  | .min | .max | .dict => false
  | _ => true
theorem p_blt {f : Bl} (hf : bltHere f = true) (hc : X.calm = true) (hu : X.A.units + 100 < cLine) (hg : Gl X (bltName f)) (hm : X.mg (bltName f) = none) (ha : PA X (a :: es) (tRs X Z b rs))
    (he : starEach (a :: es) X.env = (false, eval a X.env) :: starEach es X.env) (hpl : (backTo pos (starEach es X.env)).any (·.1) = false) :
    PE X (.Call (.Name (bltName f) p) (a :: es) [] pos) (tR X Z b fun σ => (rs σ).bnd fun ws => (rds ws).bnd fun xs => K.opt ((bltD f xs).map W.d)) := by
  cases f <;> simp only [bltHere, Bool.false_eq_true] at hf
  · exact pe_to (pe_callB (b_len (b := b)) hg hm boot_len ha (by decide) (by decide) he hpl) fun σ H Q h => bOp_of (tRs.then_ h)
  · exact pe_to (pe_callTy (b_int (b := b)) hg hm boot_int ha (by decide) (by decide) he hpl) fun σ H Q h => bOp_of (tRs.then_ h)
  · exact pe_to (pe_callTy (b_str (b := b)) hg hm boot_str ha (by decide) (by decide) he hpl) fun σ H Q h => bOp_of (tRs.then_ h)
  · exact pe_to (pe_callB (b_all (b := b) hc) hg hm boot_all ha (by decide) (by decide) he hpl) fun σ H Q h => bOp_of (tRs.then_ h)
  · exact pe_to (pe_callB (b_any (b := b) hc) hg hm boot_any ha (by decide) (by decide) he hpl) fun σ H Q h => bOp_of (tRs.then_ h)
  · exact pe_to (pe_callTy (b_tup (b := b)) hg hm boot_tuple ha (by decide) (by decide) he hpl) fun σ H Q h => bOp_of (tRs.then_ h)
  · exact pe_to (pe_callTy (b_lst (b := b) hc) hg hm boot_list ha (by decide) (by decide) he hpl) fun σ H Q h => bOp_of (tRs.then_ h)
  · exact pe_to (pe_callB (b_sorted (b := b) hc hu) hg hm boot_sorted ha (by decide) (by decide) he hpl) fun σ H Q h => bOp_of (tRs.then_ h)
/-! ### isinstance -/
def tyName : Ty → String
  | .int => "int" | .bool => "bool" | .str => "str" | .tup => "tuple" | .lst => "list" | .dic => "dict"
def tyOf : PyData → String
  | .none => "NoneType" | .bool _ => "bool" | .int _ => "int" | .str _ => "str" | .tuple _ => "tuple" | .list _ => "list" | .dict _ => "dict"
theorem ty_kit (t : Ty) (x : PyData) : kitB (tyOf x) (tyName t) = some (isTy t x) := by
  cases t <;> cases x <;> (simp only [tyOf, tyName, isTy]; decide +kernel)
theorem DT.kit {pins : List (Addr × Obj)} {σ : L2.St} {H : Hp} {s : Shared} {C : Addr → Prop} {v : V} {x : PyData} {u : Value} (I : Inv X pins σ H s) (h : DT X.K X.w H C v x) (r : RelV v u) :
    ∃ P : Heap → Prop, PySem.W.KitX X.K u (.type (tyOf x)) P ∧ P s.heap ∧ u ≠ .builtin "__main__.__loader__#opaque" := by
  cases x with
  | none => cases (show v = .non from h); cases r; exact ⟨_, PySem.W.kitx_none, True.intro, fun z => nomatch z⟩
  | bool y => cases (show v = .bl y from h); cases r; exact ⟨_, PySem.W.kitx_bool, True.intro, fun z => nomatch z⟩
  | int i => cases (show v = .int i from h); obtain ⟨t, rfl⟩ := r; exact ⟨_, PySem.W.kitx_int, True.intro, fun z => nomatch z⟩
  | str y => cases (show v = .str y from h); obtain ⟨t, rfl⟩ := r; exact ⟨_, PySem.W.kitx_str, True.intro, fun z => nomatch z⟩
  | list ds =>
    obtain ⟨a, vs, rfl, h1, _⟩ := h
    cases r
    obtain ⟨its, n, _, _, e⟩ := rd_lst I h1
    exact ⟨_, PySem.W.kitx_list, ⟨_, e, rfl⟩, fun z => nomatch z⟩
  | tuple ds =>
    obtain ⟨a, vs, rfl, h1, _⟩ := h
    cases r
    obtain ⟨its, _, ⟨o, e, c, _⟩, _⟩ := I.tuple h1
    exact ⟨_, PySem.W.kitx_tuple, ⟨o, e, c⟩, fun z => nomatch z⟩
  | dict kvs =>
    obtain ⟨a, es, rfl, h1, _⟩ := h
    cases r
    obtain ⟨ep, o, e, c, _⟩ := h1.raw I
    exact ⟨_, PySem.W.kitx_dict, ⟨o, e, c.1⟩, fun z => nomatch z⟩
theorem b_isi (t : Ty) : CallR X (.builtin "isinstance") (fun vs H Q => ∃ f M x u, MemOk X.K X.w f M H ∧ DT X.K X.w H (isC f M) u x ∧ vs = [u, .ty (tyName t)] ∧ Q (.bl (isTy t x)) H) := by
  intro pins s σ H vs us Q I r ⟨f, M, x, u, m, h, e, q⟩
  subst e
  obtain ⟨u1, u2, rfl, r1, r2⟩ := vals2 r
  cases (show u2 = Value.type (tyName t) from r2)
  obtain ⟨P, kx, p, hx⟩ := h.kit I r1
  exact PySem.W.kia_one kx I.kIn p (kit_ty (ty_kit t x)) hx fun tk => ⟨.bl _, H, I.tok tk, rfl, q⟩
theorem p_isi {t : Ty} {n : Str} {p2 : Pos} (hg : Gl X "isinstance") (hm : X.mg "isinstance" = none) (hg2 : Gl X n) (hm2 : X.mg n = none) (hn : bootBuiltins n = some (.type (tyName t))) (hn1 : n ≠ "__name__") (hn2 : (n == ("__debug__" : Str)) = false) (ha : PE X a (tR X Z b ra))
    (hs : starEach [a, .Name n p2] X.env = (false, eval a X.env) :: starEach [.Name n p2] X.env) :
    PE X (.Call (.Name "isinstance" p) [a, .Name n p2] [] pos) (tR X Z b fun σ => (ra σ).bnd fun x => (rd x).bnd fun x => K.pur (W.d (.bool (isTy t x)))) := by
  refine pe_to (pe_callB (b_isi t) hg hm boot_isinstance (pa_cons ha (pa_cons (pe_bltn (v := .ty (tyName t)) hg2 hm2 hn rfl hn1 hn2) pa_nil rfl) hs) (by decide) (by decide) hs rfl) fun σ H Q h => ?_
  refine (tR.one h).mono fun v H1 ⟨f, M, x, m, hb, r, h⟩ => ?_
  obtain ⟨d, e, h2⟩ := h.rd
  exact ⟨f, M, d, v, m, r.dt m e, rfl, h2 f H1 .refl m _ (DR.bl _)⟩
end
end Cs
set_option Elab.async false
set_option linter.all false
set_option autoImplicit false
set_option maxRecDepth 100000
set_option maxHeartbeats 1000000
/-! d.update(e) of empty dicts. -/
namespace Cs
open PySem L2 PyProof.Rows
section
variable {X : Cx} {Z : WX} {b : Nat} {σV : L2.St}
theorem m_update : MtR X "dict.update" (rM X Z b σV (methW b .update)) := by
  intro pins s σ H u vs v us Q I ru rvs ⟨f, M, x, ys, m, hb, rx, ry, h⟩
  match x, ys, h with
  | .d _, [], h => exact h.elim
  | .d _, [.d _], h => exact h.elim
  | .d _, [.c _], h => exact h.elim
  | .d _, _ :: _ :: _, h => exact h.elim
  | .c _, [], h => exact h.elim
  | .c _, [.d _], h => exact h.elim
  | .c _, _ :: _ :: _, h => exact h.elim
  | .c n, [.c j], h =>
    simp only [methW] at h
    split at h
    · exact h.elim
    · rename_i hnj
      obtain ⟨c, ec, h⟩ := h.look
      obtain ⟨e, ee, h⟩ := h.look
      match c, e, ec, ee, h with
      | .dic [], .dic [], ec, ee, h =>
        have h := h.put
        have hn : n < M.length := (List.getElem?_eq_some_iff.mp ec).1
        have hj : j < M.length := (List.getElem?_eq_some_iff.mp ee).1
        obtain ⟨ns, es, ep0, q, rr, kk⟩ := m.cell n _ ec
        obtain ⟨ns2, es2, ep2, q2, rr2, kk2⟩ := m.cell j _ ee
        have z1 : es = [] := List.length_eq_zero_iff.mp rr.length
        have z2 : es2 = [] := List.length_eq_zero_iff.mp rr2.length
        subst z1 z2
        obtain ⟨_, rfl⟩ := rx
        obtain ⟨v1, rfl, _, rfl⟩ := ry.one
        cases ru
        obtain ⟨u1, rfl, r1⟩ : ∃ u1, us = [u1] ∧ RelV (.ref (f j)) u1 := by
          cases rvs with
          | cons p q => cases q; exact ⟨_, rfl, p⟩
        cases r1
        have hne : f n ≠ f j := fun z => hnj (m.inj n j hn hj z)
        obtain ⟨ep, hr⟩ := DcAt.raw I (C := fun _ => False) (show DcAt X.K H (fun _ => False) (f n) [] from ⟨ns, .inl ⟨ep0, q, id⟩⟩)
        obtain ⟨ep3, hr2⟩ := DcAt.raw I (C := fun _ => False) (show DcAt X.K H (fun _ => False) (f j) [] from ⟨ns2, .inl ⟨ep2, q2, id⟩⟩)
        have hD : s.heap.DictOf (mixKind X.prog X.w) (f n) [] := EK.leafDict (rr.ek) kk (fun p hp => by cases hp) hr
        have hO : s.heap.DictOf (mixKind X.prog X.w) (f j) [] := EK.leafDict (rr2.ek) kk2 (fun p hp => by cases hp) hr2
        refine call_meetsIn PySem.F.slot_dict_update hD.typeIs PySem.F.entry_dict_update (PySem.F.args_dict_update_2 _ _) (meets_dict_update (mixKind X.prog X.w) (f n) (f j) hne ns2) ⟨[], [], hD, hO, by decide, fun h' hd' _ hs' => ?_⟩
        obtain ⟨es', ep', hr', hz, _⟩ := Heap.DictOf.raw hd'
        have hz : es' = #[] := Array.size_eq_zero_iff.mp hz
        subst hz
        obtain ⟨m', x'⟩ := m.write (b := b) (n := n) (c := .dic []) (o := dO (f n) [] ep') hn (fun c₀ e r hr => by simp [Cell.refs] at hr) (fun M' H' x' e => ⟨ns, [], ep', e, trivial, ⟨fun p hp => (List.not_mem_nil hp).elim, List.nodup_nil, Nat.zero_le _⟩⟩)
        have he : ∃ q, h'.get? (f n) = some q := let ⟨o, ho, _⟩ := hr'; ⟨o, ho⟩
        exact ⟨.non, _, d_write I (by rw [q]; exact True.intro) hs' he (dO_new (es := []) hr'), rfl, h f _ x' m' .non .non⟩
end
end Cs
set_option Elab.async false
set_option linter.all false
set_option autoImplicit false
set_option maxRecDepth 100000
set_option maxHeartbeats 1000000
/-! Calls of defs; methods. -/
namespace Cs
open PySem L2 PyProof.Rows
/-! ### calls of defs -/
/-- what a def promises: what the interpreter says of it, k calls deep -/
def spI (K : PySem.W.Frag) (w : World) (mg : Str → Option Value) (J : Info) (k : Nat) (x : Str) (np : Nat) : Sp := fun vs H Q E => ∃ b f M ws, MemOk K w f M H ∧ b ≤ M.length ∧ RWs K w f M H vs ws ∧ vs.length = np ∧
  Then K w b f M H (calln J k x ws M) (fun z f' M' H' => ∀ v, RW K w f' M' H' v z → Q v H') (fun e f' M' H' => ∀ cls d, ExcIn mg K w e cls d H' (isC f' M') → E cls d H')
/-- the def x of the module -/
def FnAt (P : Program) (w : World) (K : PySem.W.Frag) (mg : Str → Option Value) (base : Heap) (J : Info) (k dp : Nat) (x : Str) : Prop :=
  ∃ f fd ps d, mg x = some (.ref f) ∧ PySem.W.keepIn K (.ref f) = true ∧ Binds K fd ps [] ∧ J.fns x = some d ∧ ps.length = d.np ∧ FnOk P w K mg base (L2.CX P w) dp f fd ps (spI K w mg J k x d.np)
section
variable {X : Cx} {Z : WX} {b : Nat} {σV : L2.St} {ra rb rc : Sl → K Cs.W} {rs : Sl → K (List Cs.W)} {a e2 e3 : Expr} {es : List Expr} {pos p : Pos}
theorem calln_len {J : Info} {k : Nat} {x : Str} {d : FnD} {ws : List Cs.W} {M : Mem} (h : calln J k x ws M ≠ .no) (e : J.fns x = some d) : ws.length = d.np := by
  cases k with
  | zero => exact absurd rfl h
  | succ k =>
    unfold calln at h
    rw [e] at h
    by_cases hl : ws.length = d.np
    · exact hl
    · simp only [hl, if_false] at h
      exact absurd rfl h
theorem p_fn {J : Info} {k dp : Nat} {x : Str} (F : FnAt X.prog X.w X.K X.mg X.base J k dp x) (hr : Room dp X.A) (tk : Takes X Z) (hg : Gl X x) (ha : PA X (a :: es) (tRs X Z b rs)) (hdb : (x == ("__debug__" : Str)) = false)
    (he : starEach (a :: es) X.env = (false, eval a X.env) :: starEach es X.env) (hpl : (backTo pos (starEach es X.env)).any (·.1) = false) :
    PE X (.Call (.Name x p) (a :: es) [] pos) (tR X Z b fun σ => (rs σ).bnd fun ws => calln J k x ws) := by
  obtain ⟨f, fd, ps, d, hm, hk, hb, hd, hp, F⟩ := F
  refine pe_to (pe_callS F hr hg hm hk hb (E := WE Z) (fun σ => passAt tk σ) ha hdb he hpl) fun σ H Q h => ?_
  refine (tRs.then_ h).mono fun vs H1 ⟨f, M, ys, m, hb, r, h⟩ => ?_
  exact ⟨b, f, M, ys, m, hb, r, by rw [r.length]; exact calln_len h.ne hd, h⟩
theorem p_fn0 {J : Info} {k dp : Nat} {x : Str} (F : FnAt X.prog X.w X.K X.mg X.base J k dp x) (hr : Room dp X.A) (tk : Takes X Z) (hg : Gl X x) (hdb : (x == ("__debug__" : Str)) = false) :
    PE X (.Call (.Name x p) [] [] pos) (tR X Z b fun σ => calln J k x []) := by
  obtain ⟨f, fd, ps, d, hm, hk, hb, hd, hp, F⟩ := F
  refine ⟨fun pins s σ H Q I ⟨f', σ', M, st, h⟩ => ?_⟩
  refine wpAny_Call_Name_kw (ld_glob I hg hm ?_ hdb)
  refine PySem.W.callWith_K0 I.kIn hk (run_fnS (us := []) (vs := []) F hr hb (E := WE Z) (passAt tk σ) I .nil ?_)
  have hl := calln_len h.ne hd
  exact ⟨b, f', M, [], st.mem, st.base, trivial, by simpa using hl, h⟩
/-! ### methods -/
def mtName : Mt → Str
  | .append => "append" | .pop => "pop" | .get => "get" | .index => "index" | .update => "update" | .join => "join" | .split => "split" | .vals => "values"
def mtHere : Mt → Bool
  | .append | .pop | .get | .index | .join | .split | .update => true
  | _ => false
theorem p_meth {m : Mt} {apos : Pos} (hm : mtHere m = true) (hu : X.A.units + 100 < cLine) (ho : PE X a (tR X Z b ra)) (ha : PA X es (tRs X Z b rs))
    (hbase : attributeBase a (mtName m) X.env (eval a X.env) = eval a X.env)
    (hfew : ((backTo pos (starEach es X.env)).all (fun x => !x.1) && (backToKw pos (keywordEach [] X.env)).all (fun x => x.1.isSome)
      && decide (es.length + ([] : List Keyword).length + (if ([] : List Keyword).isEmpty then 0 else 1) < 30)) = true)
    (hline : (apos.endLine == pos.line) = true) (hplain : (backTo pos (starEach es X.env)).any (·.1) = false)
    (hev : ∀ (id : String) (Q : Args → Shared → Prop) (E : Value → Shared → Prop) (s : Shared), wpAny (model X.prog X.w) X.A (spliced (backTo pos (starEach es X.env))) (fun vs s' => Q ⟨vs, []⟩ s') E s → wpAny (model X.prog X.w) X.A (evalArgs (.builtin id) true (backTo pos (starEach es X.env)) []) Q E s) :
    PE X (.Call (.Attribute a (mtName m) apos) es [] pos) (tR X Z b fun σ => (ra σ).bnd fun x => (recOk m x).bnd fun _ => (rs σ).bnd fun ws => methW b m x ws) := by
  refine ⟨fun pins s σ H Q I ⟨f, σ', M, st, h⟩ => ?_⟩
  refine wpAny_Call_method_late hbase hfew hline rfl (thn (ho.run pins s σ H (fun v H1 => ∃ f1 M1 y, Stt X b f1 σ' M1 σ H1 ∧ RW X.K X.w f1 M1 H1 v y ∧ Then X.K X.w b f1 M1 H1 (((recOk m y).bnd fun _ => (rs σ').bnd fun ws => methW b m y ws) M1) (fun z f' M' H' => ∀ v, RW X.K X.w f' M' H' v z → Q v H') (erW X Z σ)) I
    ⟨f, σ', M, st, h.bnd.imp (fun y f1 M1 H1 x1 m1 h1 v rv => ⟨f1, M1, y, st.ext x1 m1, rv, h1⟩) fun _ _ _ _ _ _ z => z⟩) fun v s1 ⟨u, H1, I1, ru, f1, M1, y, st1, ry, h⟩ => ?_)
  have m1 := st1.mem
  -- the arguments, then the method
  have go : ∀ (id : String), Then X.K X.w b f1 M1 H1 (((rs σ').bnd fun ws => methW b m y ws) M1) (fun z f' M' H' => ∀ v, RW X.K X.w f' M' H' v z → Q v H') (erW X Z σ) →
      (∀ s2 H2 f2 M2 us vs ys, Inv X pins σ H2 s2 → Ext b f1 M1 H1 f2 M2 H2 → MemOk X.K X.w f2 M2 H2 → Vals vs us → Then X.K X.w b f2 M2 H2 (methW b m y ys M2) (fun z f' M' H' => ∀ v, RW X.K X.w f' M' H' v z → Q v H') (erW X Z σ) → rM X Z b σ (methW b m) u vs H2 Q → wpAny (model X.prog X.w) X.A (PySem.call (.builtin id) (v :: us)) (EP X pins σ Q) X.xe s2) →
      wpAny (model X.prog X.w) X.A (callWith pos (.builtin id) [v] (backTo pos (starEach es X.env)) []) (EP X pins σ Q) X.xe s1 := fun id h hc => by
    refine Calls.callWith_builtin hplain (hev id _ _ _ ?_)
    have hA := ha.run pos pins s1 σ H1 (fun vs H2 => ∃ f2 M2 ys, Ext b f1 M1 H1 f2 M2 H2 ∧ MemOk X.K X.w f2 M2 H2 ∧ Then X.K X.w b f2 M2 H2 (methW b m y ys M2) (fun z f' M' H' => ∀ v, RW X.K X.w f' M' H' v z → Q v H') (erW X Z σ) ∧ rM X Z b σ (methW b m) u vs H2 Q) I1 ⟨f1, σ', M1, st1, h.bnd.imp (fun ys f2 M2 H2 x2 m2 h2 vs rvs => ⟨f2, M2, ys, x2, m2, h2, f2, M2, y, ys, m2, Nat.le_trans st1.base x2.len, ry.ext x2, rvs, h2⟩) fun _ _ _ _ _ _ z => z⟩
    exact thn hA fun us s2 ⟨vs, H2, I2, r2, f2, M2, ys, x2, m2, h2, q2⟩ => hc s2 H2 f2 M2 us vs ys I2 x2 m2 r2 h2 q2
  have lst : ∀ {n : Nat} {ws : List Cs.W}, M1[n]? = some (.lst ws) → y = .c n → s1.TypeIs v "list" ∧ ∀ a, v = .ref a → ∃ ob, s1.heap.get? a = some ob ∧ ob.dict = none := fun {n ws} e ey => by
    subst ey
    obtain ⟨hn, rfl⟩ := ry
    obtain ⟨vs, q, _⟩ := m1.cell n _ e
    cases ru
    obtain ⟨its, k, _, _, e⟩ := rd_lst I1 (.inl q)
    exact ⟨⟨_, e, rfl⟩, fun a' e' => by cases e'; exact ⟨_, e, rfl⟩⟩
  cases m <;> simp only [mtHere, Bool.false_eq_true] at hm
  · -- append
    cases y with
    | d _ => exact h.elim
    | c n =>
      simp only [recOk, K.bnd_assoc] at h
      obtain ⟨c, ec, h⟩ := h.look
      cases c with
      | dic _ => exact h.elim
      | obj _ => exact h.elim
      | lst ws =>
        obtain ⟨h1, h2⟩ := lst ec rfl
        exact ⟨"list", "list.append", PySem.F.plainAttrs_list, PySem.F.slot_list_append, PySem.F.type_list_append, h1, h2, go _ h fun s2 H2 f2 M2 us vs ys I2 x2 m2 r2 h2 q2 => m_append pins s2 σ H2 u vs v us Q I2 ru r2 q2⟩
  · -- pop
    cases y with
    | d _ => exact h.elim
    | c n =>
      simp only [recOk, K.bnd_assoc] at h
      obtain ⟨c, ec, h⟩ := h.look
      cases c with
      | dic _ => exact h.elim
      | obj _ => exact h.elim
      | lst ws =>
        obtain ⟨h1, h2⟩ := lst ec rfl
        exact ⟨"list", "list.pop", PySem.F.plainAttrs_list, PySem.F.slot_list_pop, PySem.F.type_list_pop, h1, h2, go _ h fun s2 H2 f2 M2 us vs ys I2 x2 m2 r2 h2 q2 => m_pop pins s2 σ H2 u vs v us Q I2 ru r2 q2⟩
  · -- get
    simp only [recOk, K.bnd_assoc] at h
    obtain ⟨d, e, h⟩ := h.rd
    have t := ry.dt m1 e
    cases d with
    | dict kvs =>
      obtain ⟨a', es', rfl, h3, _⟩ := t
      cases ru
      obtain ⟨ep, o, ho, hx, hd⟩ := h3.raw I1
      exact ⟨"dict", "dict.get", PySem.F.plainAttrs_dict, PySem.F.slot_dict_get, PySem.F.type_dict_get, ⟨o, ho, hx.1⟩, fun a' e' => by cases e'; exact ⟨o, ho, hx.2.1⟩, go _ h fun s2 H2 f2 M2 us vs ys I2 x2 m2 r2 h2 q2 => m_get hu pins s2 σ H2 (.ref a') vs _ us Q I2 rfl r2 q2⟩
    | _ => exact h.elim
  · -- index
    simp only [recOk, K.bnd_assoc] at h
    obtain ⟨d, e0, h⟩ := h.rd
    have t := ry.dt m1 e0
    cases d with
    | list ds =>
      obtain ⟨a', vs', rfl, h3, _⟩ := t
      cases ru
      obtain ⟨its, k, _, _, e⟩ := rd_lst I1 h3
      have ht : s1.TypeIs (.ref a') "list" := ⟨_, e, rfl⟩
      refine ⟨"list", "list.index", PySem.F.plainAttrs_list, PySem.F.slot_list_index, PySem.F.type_list_index, ht, fun a' e' => by cases e'; exact ⟨_, e, rfl⟩, go _ h fun s2 H2 f2 M2 us vs ys I2 x2 m2 r2 h2 q2 => ?_⟩
      have ht2 : s2.TypeIs (.ref a') "list" := by
        have ry2 := ry.ext x2
        cases y with
        | d d0 =>
          simp only [frz, Option.some.injEq] at e0
          subst e0
          cases (show DR X.K X.w H2 (isC f2 M2) (.ref a') (.list ds) from ry2) with
          | lst h5 _ =>
            obtain ⟨_, _, _, _, e6⟩ := rd_lst I2 h5.1
            exact ⟨_, e6, rfl⟩
        | c n =>
          obtain ⟨hn, e6⟩ := ry2
          cases e6
          have hc := m2.cell n _ (List.getElem?_eq_getElem hn)
          cases hM : M2[n] with
          | lst ws =>
            rw [hM] at hc
            obtain ⟨_, q, _⟩ := hc
            obtain ⟨_, _, _, _, e6⟩ := rd_lst I2 (.inl q)
            exact ⟨_, e6, rfl⟩
          | dic kvs =>
            exfalso
            match ys, h2 with
            | [w'], h2 =>
              simp only [methW] at h2
              obtain ⟨k, _, h3⟩ := h2.rd
              obtain ⟨d', e7, h4⟩ := h3.rd
              rw [frz, if_neg (Nat.not_lt_zero _), List.getElem?_eq_getElem hn, hM] at e7
              simp only at e7
              obtain ⟨_, _, rfl⟩ := Option.map_eq_some_iff.mp e7
              exact h4
          | obj o =>
            exfalso
            match ys, h2 with
            | [w'], h2 =>
              simp only [methW] at h2
              obtain ⟨k, _, h3⟩ := h2.rd
              obtain ⟨d', e7, h4⟩ := h3.rd
              rw [frz, if_neg (Nat.not_lt_zero _), List.getElem?_eq_getElem hn, hM] at e7
              cases e7
      exact m_index hu (T := "list") pins s2 σ H2 (.ref a') vs _ us Q I2 rfl r2 q2 ht2 (.inl rfl)
    | _ => exact h.elim
  · -- update
    simp only [recOk, K.bnd_assoc] at h
    obtain ⟨d, e, h⟩ := h.rd
    have t := ry.dt m1 e
    cases d with
    | dict kvs =>
      obtain ⟨a', es', rfl, h3, _⟩ := t
      cases ru
      obtain ⟨ep, o, ho, hx, hd⟩ := h3.raw I1
      exact ⟨"dict", "dict.update", PySem.F.plainAttrs_dict, PySem.F.slot_dict_update, PySem.F.type_dict_update, ⟨o, ho, hx.1⟩, fun a' e' => by cases e'; exact ⟨o, ho, hx.2.1⟩, go _ h fun s2 H2 f2 M2 us vs ys I2 x2 m2 r2 h2 q2 => m_update pins s2 σ H2 (.ref a') vs _ us Q I2 rfl r2 q2⟩
    | _ => exact h.elim
  · -- join
    simp only [recOk, K.bnd_assoc] at h
    obtain ⟨d, e, h⟩ := h.rd
    have t := ry.dt m1 e
    cases d with
    | str x =>
      cases (show u = .str x from t)
      obtain ⟨tk, rfl⟩ := ru
      exact ⟨"str", "str.join", PySem.F.plainAttrs_str, PySem.F.slot_str_join, PySem.F.type_str_join, typeIs_str _ _ _, (fun _ e => nomatch e), go _ h fun s2 H2 f2 M2 us vs ys I2 x2 m2 r2 h2 q2 => m_join pins s2 σ H2 (.str x) vs _ us Q I2 ⟨tk, rfl⟩ r2 q2⟩
    | _ => exact h.elim
  · -- split
    simp only [recOk, K.bnd_assoc] at h
    obtain ⟨d, e, h⟩ := h.rd
    have t := ry.dt m1 e
    cases d with
    | str x =>
      cases (show u = .str x from t)
      obtain ⟨tk, rfl⟩ := ru
      exact ⟨"str", "str.split", PySem.F.plainAttrs_str, PySem.F.slot_str_split, PySem.F.type_str_split, typeIs_str _ _ _, (fun _ e => nomatch e), go _ h fun s2 H2 f2 M2 us vs ys I2 x2 m2 r2 h2 q2 => m_split pins s2 σ H2 (.str x) vs _ us Q I2 ⟨tk, rfl⟩ r2 q2⟩
    | _ => exact h.elim
end
end Cs
set_option Elab.async false
set_option linter.all false
set_option autoImplicit false
set_option maxRecDepth 100000
set_option maxHeartbeats 1000000
/-! Dicts written out; the place in a tuple of the module. -/
namespace Cs
open PySem L2 PyProof.Rows
/-- pairs -/
def DRp (K : PySem.W.Frag) (w : World) (H : Hp) (C : Addr → Prop) : List (V × V) → List (PyData × PyData) → Prop
  | [], [] => True
  | (u, v) :: vs, (x, y) :: xs => (DR K w H C u x ∧ DR K w H C v y) ∧ DRp K w H C vs xs
  | _, _ => False
theorem DRp.stay {K : PySem.W.Frag} {w : World} {H H' : Hp} {C C' : Addr → Prop} (st : Stay H H' C C') : ∀ {vs : List (V × V)} {xs : List (PyData × PyData)}, DRp K w H C vs xs → DRp K w H' C' vs xs
  | [], [], _ => trivial
  | (_, _) :: _, (_, _) :: _, ⟨⟨a, b⟩, r⟩ => ⟨⟨a.stay st, b.stay st⟩, DRp.stay st r⟩
  | [], _ :: _, h => h.elim
  | _ :: _, [], h => h.elim
abbrev TK := L2.St → Hp → (List (V × V) → Hp → Prop) → Prop
structure PK (X : Cx) (pos : Pos) (keys : List (Option Expr)) (values : List Expr) (t : TK) : Prop where
  run : ∀ (pins : List (Addr × Obj)) (s : Shared) (σ : L2.St) (H : Hp) (Q : List (V × V) → Hp → Prop), Inv X pins σ H s → t σ H Q →
    wpAny (model X.prog X.w) X.A (evalPairs (pairTrees keys values X.env pos)) (fun vs s' => ∃ ps H', Inv X pins σ H' s' ∧ VV ps vs ∧ Q ps H') X.xe s
def tK (X : Cx) (Z : WX) (b : Nat) (run : Sl → K (List (PyData × PyData))) : TK := fun σV H Q => ∃ f σ M, Stt X b f σ M σV H ∧ Then X.K X.w b f M H (run σ M) (fun ps f' M' H' => ∀ vs, DRp X.K X.w H' (isC f' M') vs ps → Q vs H') (erW X Z σV)
theorem dat_eq {y : Cs.W} {d : PyData} (e : y.dat = some d) : y = .d d := by cases y <;> simp [W.dat] at e; subst e; rfl
section
variable {X : Cx} {Z : WX} {b : Nat} {σV : L2.St} {ra rb rc : Sl → K Cs.W} {rk : Sl → K (List (PyData × PyData))} {pos : Pos}
theorem k_nil : PK X pos [] [] (tK X Z b fun _ => K.pur []) := ⟨fun pins s σ H Q I ⟨f, σ', M, st, h⟩ => pairTrees_nil_walk ⟨[], H, I, .nil, h f H .refl st.mem [] trivial⟩⟩
theorem k_cons {k v : Expr} {ks : List (Option Expr)} {vs : List Expr} (hk : PE X k (tR X Z b ra)) (hv : PE X v (tR X Z b rb)) (hr : PK X pos ks vs (tK X Z b rk)) :
    PK X pos (some k :: ks) (v :: vs) (tK X Z b fun σ => (ra σ).bnd fun a => (rb σ).bnd fun b => (rk σ).bnd fun ps => (dat a).bnd fun a => (dat b).bnd fun b => K.pur ((a, b) :: ps)) := by
  refine ⟨fun pins s σ H Q I ⟨f, σ', M, st, h⟩ => ?_⟩
  refine pairTrees_cons_walk (thn (hk.run pins s σ H (fun u H1 => ∃ f1 M1 x, Stt X b f1 σ' M1 σ H1 ∧ RW X.K X.w f1 M1 H1 u x ∧ Then X.K X.w b f1 M1 H1 (((rb σ').bnd fun b => (rk σ').bnd fun ps => (dat x).bnd fun a => (dat b).bnd fun b => K.pur ((a, b) :: ps)) M1) (fun ps f' M' H' => ∀ vs, DRp X.K X.w H' (isC f' M') vs ps → Q vs H') (erW X Z σ)) I
    ⟨f, σ', M, st, h.bnd.imp (fun x f1 M1 H1 x1 m1 h1 u ru => ⟨f1, M1, x, st.ext x1 m1, ru, h1⟩) fun _ _ _ _ _ _ z => z⟩) fun u s1 ⟨a, H1, I1, rx, f1, M1, x, st1, ra', h1⟩ => ?_)
  refine thn (hv.run pins s1 σ H1 (fun u H2 => ∃ f2 M2 y, Stt X b f2 σ' M2 σ H2 ∧ Ext b f1 M1 H1 f2 M2 H2 ∧ RW X.K X.w f2 M2 H2 u y ∧ Then X.K X.w b f2 M2 H2 (((rk σ').bnd fun ps => (dat x).bnd fun a => (dat y).bnd fun b => K.pur ((a, b) :: ps)) M2) (fun ps f' M' H' => ∀ vs, DRp X.K X.w H' (isC f' M') vs ps → Q vs H') (erW X Z σ)) I1
    ⟨f1, σ', M1, st1, h1.bnd.imp (fun y f2 M2 H2 x2 m2 h2 u ru => ⟨f2, M2, y, st1.ext x2 m2, x2, ru, h2⟩) fun _ _ _ _ _ _ z => z⟩) fun w2 s2 ⟨c, H2, I2, ry, f2, M2, y, st2, x2, rb', h2⟩ => ?_
  refine thn (hr.run pins s2 σ H2 (fun qs H3 => Q ((a, c) :: qs) H3) I2 ⟨f2, σ', M2, st2, h2.bnd.imp (fun ps f3 M3 H3 x3 m3 h3 qs rq => ?_) fun _ _ _ _ _ _ z => z⟩) fun ws s3 ⟨ps, H3, I3, rel, q3⟩ => ⟨(a, c) :: ps, H3, I3, .cons ⟨rx, ry⟩ rel, q3⟩
  unfold Cs.dat at h3
  obtain ⟨d1, e1, h4⟩ := h3.opt
  obtain ⟨d2, e2, h5⟩ := h4.opt
  have := dat_eq e1; subst this
  have := dat_eq e2; subst this
  exact h5 f3 H3 .refl m3 _ ⟨⟨DR.stay x3.stay (DR.stay x2.stay ra'), DR.stay x3.stay rb'⟩, rq⟩
end
/-! ### the entries that come out -/
section
variable {K : PySem.W.Frag} {w : World} {P : Program} {H : Hp} {C : Addr → Prop} {β : Type} {R : V → β → Prop}
theorem carr : ∀ {ps : List (PyData × PyData)} {vs : List (V × V)} {ws : List (Value × Value)}, DRp K w H C vs ps → (∀ p ∈ ps, sort p.1 = 1) → VV vs ws → ∃ rs, Carries (mixKind P w) ws rs ∧ LP (DR K w H C) rs ps
  | [], [], _, _, _, r => by cases r; exact ⟨[], True.intro, trivial⟩
  | (x, y) :: ps, (u, v) :: vs, _, ⟨⟨hu, hv⟩, t⟩, hs, r => by
    cases r with
    | @cons _ q _ qs hq tq =>
      obtain ⟨rs, c, l⟩ := carr t (fun p hp => hs p (List.mem_cons_of_mem _ hp)) tq
      have h1 := hs _ List.mem_cons_self
      obtain ⟨q1, q2⟩ := q
      have e := leaf_rel h1 hu
      subst e
      exact ⟨(leaf x, q2) :: rs, ⟨kV_is hq.1, rfl, c⟩, ⟨rfl, h1, v, hq.2, hv⟩, l⟩
  | [], _ :: _, _, h, _, _ => h.elim
  | _ :: _, [], _, h, _, _ => h.elim
theorem LP.merged : ∀ {rs : List (Key × Value)} {ps : List (PyData × β)} {acc : List (Key × Value)} {a : List (PyData × β)}, LP R rs ps → LP R acc a → LP R (PySem.merged acc rs) (ps.foldl (fun a p => dput a p.1 p.2) a)
  | [], [], _, _, _, h => h
  | (k, u) :: rs, (x, y) :: ps, acc, a, ⟨⟨e, hs, vv, h1, h2⟩, t⟩, h => by
    subst e
    exact LP.merged (acc := PySem.stored acc (leaf x) u) (a := dput a x y) t (h.stored hs h1 h2)
  | [], _ :: _, _, _, h, _ => h.elim
  | _ :: _, [], _, _, h, _ => h.elim
end
theorem dput_new {β : Type} {kvs : List (PyData × β)} {x : PyData} {y : β} (h : (kvs.any fun p => PyData.eqv p.1 x) = false) : dput kvs x y = kvs ++ [(x, y)] := by
  unfold dput
  rw [h]
  rfl
theorem dputs : ∀ (ps acc : List (PyData × PyData)), distinct (ps.map (·.1)) = true → (∀ p ∈ acc, ∀ q ∈ ps, PyData.eqv p.1 q.1 = false) → ps.foldl (fun a p => dput a p.1 p.2) acc = acc ++ ps
  | [], acc, _, _ => by simp
  | (x, y) :: ps, acc, hd, hc => by
    simp only [List.map_cons, distinct, Bool.and_eq_true, Bool.not_eq_true', List.any_map] at hd
    rw [List.foldl_cons, dput_new (by
      cases h : acc.any fun p => PyData.eqv p.1 x with
      | false => rfl
      | true =>
        obtain ⟨p, hp, e⟩ := List.any_eq_true.mp h
        have := hc p hp (x, y) List.mem_cons_self
        simp [e] at this), dputs ps (acc ++ [(x, y)]) hd.2 fun p hp q hq => by
      rcases List.mem_append.mp hp with hp | hp
      · exact hc p hp q (List.mem_cons_of_mem _ hq)
      · simp at hp
        subst hp
        have h2 := hd.1
        cases e : PyData.eqv x q.1 with
        | false => rfl
        | true =>
          have : (ps.any fun q => PyData.eqv x q.1) = true := List.any_eq_true.mpr ⟨q, hq, e⟩
          simp only [Function.comp_def] at h2
          rw [h2] at this
          cases this]
    simp
theorem keys_fold {β : Type} : ∀ (ps acc : List (PyData × β)), KeysOk acc → (∀ p ∈ acc, sort p.1 = 1) → (∀ p ∈ ps, sort p.1 = 1) → acc.length + ps.length ≤ 15 → KeysOk (ps.foldl (fun a p => dput a p.1 p.2) acc)
  | [], acc, k, _, _, _ => k
  | (x, y) :: ps, acc, k, h1, h2, hl => by
    have hx : sort x = 1 := h2 (x, y) List.mem_cons_self
    rw [List.length_cons] at hl
    have hput : putOk acc x = true := by
      unfold putOk askOk
      simp only [Bool.and_eq_true, decide_eq_true_eq, List.all_eq_true, beq_iff_eq, bne_iff_ne]
      refine ⟨⟨leaf_key hx, by rw [hx]; decide, fun p hp => by rw [h1 p hp, hx]⟩, by unfold top; omega⟩
    have hm : ∀ p ∈ dput acc x y, sort p.1 = 1 := fun p hp => by
      unfold dput at hp
      split at hp
      · obtain ⟨q, hq, rfl⟩ := List.mem_map.mp hp
        split
        · exact h1 q hq
        · exact h1 q hq
      · rcases List.mem_append.mp hp with hp | hp
        · exact h1 p hp
        · simp at hp; subst hp; exact hx
    have hl2 : (dput acc x y).length ≤ acc.length + 1 := by
      unfold dput
      split <;> simp
    exact keys_fold ps (dput acc x y) (dput_keys k hput) hm (fun p hp => h2 p (List.mem_cons_of_mem _ hp)) (by omega)
theorem keys_nil {β : Type} : KeysOk ([] : List (PyData × β)) := ⟨by simp, by simp, by simp⟩
theorem dispOk_def {ps : List (PyData × PyData)} (h : dispOk ps = true) : KeysOk ps ∧ (((∀ p ∈ ps, sort p.1 = 1) ∧ ps.foldl (fun a p => dput a p.1 p.2) [] = ps) ∨ ∃ x y, ps = [(x, y)] ∧ sort x = 2 ∧ isKey 8 x = true) := by
  unfold dispOk at h
  simp only [Bool.and_eq_true, Bool.or_eq_true, decide_eq_true_eq, List.all_eq_true, beq_iff_eq] at h
  obtain ⟨h1, ⟨h2, h3⟩ | ⟨h2, h3⟩⟩ := h
  · have e : ps.foldl (fun a p => dput a p.1 p.2) [] = ps := by
      rw [dputs ps [] h3 (by simp)]; rfl
    refine ⟨?_, .inl ⟨h2, e⟩⟩
    rw [← e]
    exact keys_fold ps [] keys_nil (by simp) h2 (by simpa using h1)
  · match ps, h2 with
    | [(x, y)], _ =>
      obtain ⟨s2, k8⟩ := h3 (x, y) List.mem_cons_self
      refine ⟨?_, .inr ⟨x, y, rfl, s2, k8⟩⟩
      have hput : putOk ([] : List (PyData × PyData)) x = true := by
        unfold putOk askOk
        simp only [Bool.and_eq_true, decide_eq_true_eq, bne_iff_ne]
        exact ⟨⟨k8, by rw [s2]; decide, by simp⟩, by unfold top; simp⟩
      exact dput_keys (y := y) keys_nil hput
section
variable {X : Cx} {Z : WX} {b : Nat} {σV : L2.St} {rk : Sl → K (List (PyData × PyData))} {pos : Pos}
theorem LP.ek2 {G : PySem.W.Frag} {P : Program} {w : World} {H : Hp} {C : Addr → Prop} {β : Type} {R : V → β → Prop} {h : Heap} {a : Addr} {ps : List (Key × Value)} {kvs : List (PyData × β)} (d : h.DictOf (mixKind P w) a ps) (l : LP R ps kvs) :
    ∃ es ep, h.DictRaw a es.toArray ep ∧ EK G w H C R es kvs := by
  obtain ⟨o, es2, ep2, q1, q2, q3, q4, q5, _⟩ := d
  exact ⟨es2.toList, ep2, ⟨o, q1, q2, by simpa using q3⟩, LP.ek (P := P) q5 (fun e he => q4 e (by simpa using he)) l⟩
theorem ek_dr {G : PySem.W.Frag} {w : World} {H : Hp} {C : Addr → Prop} : ∀ {es : List DictEntry} {kvs : List (PyData × PyData)}, EK G w H C (DR G w H C) es kvs → DRk G w H C es kvs
  | _, _, .nil => .nil
  | _, _, .cons a b c d e r => .cons a b c d e (ek_dr r)
theorem disp_end {k : Bool} {f1 f : Fm} {M1 M : Mem} {H1 H : Hp} {D : Addr} {ps : List (PyData × PyData)} {es : List DictEntry} {ep : Nat} {Q : VK} {er : Exc → Fm → Mem → Hp → Prop} (m1 : MemOk X.K X.w f1 M1 H1) (hb : b ≤ M1.length) (hD : H1 D = none) (hs : (D == sysModules) = false) (x : Ext b f1 M1 H1 f M H) (m : MemOk X.K X.w f M H) (hh : f.hid D)
    (r : DRk X.K X.w H (isC f M) es ps) (h : Then X.K X.w b f1 M1 H1 (dispW k ps M) (fun z f' M' H' => ∀ v, RW X.K X.w f' M' H' v z → Q v H') er) : Q (.ref D) (upd H D (dO D es ep)) := by
  unfold dispW at h
  split at h
  · rename_i hd
    obtain ⟨kk, _⟩ := dispOk_def hd
    cases k with
    | true =>
      obtain ⟨m', x'⟩ := MemOk.adopt m1 m x hb hD hh (o := dO D es ep) (c := .dic (ps.map fun p => (p.1, .d p.2))) fun f' M' H' mv e' => ⟨hs, es, ep, e', (RWk.of_data r).mv mv, (KeysOk.map W.d).2 kk⟩
      exact h _ _ x' m' (.ref D) ⟨by simp, by show V.ref D = .ref (if M.length = M.length then D else f M.length); rw [if_pos rfl]⟩
    | false =>
      obtain ⟨m', x', mv, nc⟩ := MemOk.showD m1 m x hD hh (dO D es ep)
      exact h _ _ x' m' (.ref D) (.dic ⟨hs, .inl ⟨ep, upd_same, nc⟩⟩ (DRk.stay mv.st r) kk)
  · exact h.elim
/-- {k: v, ..} -/
theorem p_dic {k : Bool} {keys : List (Option Expr)} {values : List Expr} (hu : X.A.units + 100 < cLine) (h : PK X pos keys values (tK X Z b rk)) (hall : keys.all (·.isSome) = true) (hl : keys.length = values.length) (h0 : keys ≠ []) (h15 : keys.length ≤ 15) :
    PE X (.Dict keys values pos) (tR X Z b fun σ => (rk σ).bnd (dispW k)) := by
  refine ⟨fun pins s σ H Q I ⟨f, σ', M, st, q⟩ => ?_⟩
  have hn := I.hok.fresh (Nat.le_refl s.heap.objs.size)
  have I1 := I.laid (a := s.heap.objs.size) (o := .dK []) (h' := s.heap.push { cls := .type "dict", data := .dict #[] }) (t' := s.toks) (fun _ _ q => Heap.get?_push_of_some _ q) (Nat.le_refl _) (dk_empty s.heap I.big)
  have hS : (s.heap.objs.size == sysModules) = false := beq_eq_false_iff_ne.mpr (Ne.symm (Nat.ne_of_lt I.big))
  obtain ⟨m2, x2⟩ := st.mem.hide (b := b) hn (o := .dK []) trivial
  have hq : Then X.K X.w b f M H (((rk σ').bnd (dispW k)) M) (fun z f' M' H' => ∀ v, RW X.K X.w f' M' H' v z → Q v H') (erW X Z σ) := q
  have hne := hq.ne
  generalize hr0 : ((rk σ').bnd (dispW k)) M = r0 at hq hne
  have hrun := h.run pins _ σ _ (fun vs H2 => ∃ f2 M2 ps, Ext b f M H f2 M2 H2 ∧ MemOk X.K X.w f2 M2 H2 ∧ f2.hid s.heap.objs.size ∧ H2 s.heap.objs.size = some (.dK []) ∧ DRp X.K X.w H2 (isC f2 M2) vs ps ∧ r0 = dispW k ps M2 ∧ rk σ' M = .ok ps M2) I1
    ⟨_, σ', M, ⟨m2, st.base, st.sl.ext x2⟩, ?_⟩
  rotate_left
  · have hr1 := hr0
    unfold K.bnd at hr1
    cases hx : rk σ' M with
    | no => rw [hx] at hr1; exact absurd hr1.symm hne
    | exc e M' =>
      rw [hx] at hr1
      subst hr1
      exact fun f' H' x' m' => hq f' H' (x2.trans m2 x') m'
    | ok ps M' =>
      rw [hx] at hr1
      exact fun f' H' x' m' vs r => ⟨f', M', ps, x2.trans m2 x', m', x'.hidU _ (.inl rfl), x'.keepV _ _ upd_same (fun ps z => by cases z) fun n hn' z => m2.vis n hn' (.inl z), r, hr1.symm, rfl⟩
  have disp : ∀ ps M2, r0 = dispW k ps M2 → dispOk ps = true := fun ps M2 er => by
    subst er
    unfold dispW at hne
    split at hne
    · assumption
    · exact absurd rfl hne
  by_cases hT : ∃ M2 x y, rk σ' M = .ok [(x, y)] M2 ∧ sort x = 2
  · obtain ⟨M3, x, y, hrk, hs2⟩ := hT
    refine wpAny_Dict_any hall hl h0 h15 (thn hrun fun ws s2 ⟨vs, H2, I2, rel, f2, M2, ps, x', m', hh, e, r, er, ek0⟩ => ?_)
    obtain rfl : ps = [(x, y)] := by rw [hrk] at ek0; injection ek0 with q1 _; exact q1.symm
    have hd := disp _ _ er
    subst er
    obtain ⟨d3, d4⟩ := dispOk_def hd
    have k8 : isKey 8 x = true := by
      rcases d4 with ⟨z, _⟩ | ⟨x1, y1, z, _, z2⟩
      · have := z (x, y) List.mem_cons_self
        rw [hs2] at this
        cases this
      · cases z; exact z2
    match vs, r with
    | [(u, v)], ⟨⟨hu', hv'⟩, _⟩ =>
    cases rel with
    | @cons _ wq _ wqs hq0 tq =>
    cases tq
    obtain ⟨q1, q2⟩ := wq
    obtain ⟨ka, rfl⟩ := tup_ref hs2 hu'
    cases hq0.1
    obtain ⟨z, hsd, vs0, r00, dd⟩ := dk_of I2.hok e
    cases r00
    obtain ⟨es, ep, hraw, ek⟩ := LP.ek2 (G := X.K) (w := X.w) (H := H2) (C := isC f2 M2) (R := DR X.K X.w H2 (isC f2 M2)) (kvs := []) dd trivial
    cases ek
    unfold storeAll
    rw [List.forIn_cons]
    refine wpAny_bind (wpAny_bind ?_)
    refine wpAny_dictSet_heap (knd := nestedKind X.prog X.w) (by show X.A.units + 8 < cLine; omega) (tup_is I2 k8 hu' rfl) (EK.tupDict I2 (.nil : EK X.K X.w H2 (isC f2 M2) (DR X.K X.w H2 (isC f2 M2)) [] ([] : List (PyData × PyData))) keys_nil (fun p hp => by cases hp) hraw) (fun h' dd' hs => ?_) (by simp [tps])
    refine wpAny_pure ?_
    dsimp only
    rw [List.forIn_nil]
    refine wpAny_pure ?_
    obtain ⟨o, es2, ep2, p1, p2, p3, p4, _, _⟩ := dd'
    have qq := ((TP.of I2 (.nil : EK X.K X.w H2 (isC f2 M2) (DR X.K X.w H2 (isC f2 M2)) [] ([] : List (PyData × PyData))) (fun p hp => by cases hp)).stored k8 hu' hq0.2 hv').ek (P := X.prog)
    have he : ∃ q, h'.get? s.heap.objs.size = some q := ⟨o, p1⟩
    have hraw' : h'.DictRaw s.heap.objs.size es2.toList.toArray ep2 := ⟨o, p1, p2, by simpa using p3⟩
    have qq2 : EK X.K X.w H2 (isC f2 M2) (DR X.K X.w H2 (isC f2 M2)) es2.toList [(x, y)] := by
      rw [p4]
      exact qq
    exact ⟨.ref s.heap.objs.size, _, d_write I2 (by rw [e]; exact True.intro) hs he (dO_new hraw'), rfl, disp_end st.mem st.base hn hS x' m' hh (ek_dr qq2) hq⟩
  refine wpAny_Dict_walk (knd := mixKind X.prog X.w) hall hl h0 h15 (thn hrun fun ws s2 ⟨vs, H2, I2, rel, f2, M2, ps, x', m', hh, e, r, er, ek0⟩ => ?_)
  have hd := disp _ _ er
  subst er
  obtain ⟨d3, dd0⟩ := dispOk_def hd
  obtain ⟨d2, d4⟩ : (∀ p ∈ ps, sort p.1 = 1) ∧ ps.foldl (fun a p => dput a p.1 p.2) [] = ps := by
    rcases dd0 with z | ⟨x, y, z, z2, _⟩
    · exact z
    · subst z; exact absurd ⟨M2, x, y, ek0, z2⟩ hT
  obtain ⟨rs, c, lp⟩ := carr (P := X.prog) r d2 rel
  obtain ⟨z, hsd, vs0, r00, dd⟩ := dk_of I2.hok e
  cases r00
  refine ⟨rs, c, dd, fun h' dd' hs => ?_⟩
  have lp2 := LP.merged (a := []) lp (acc := []) trivial
  rw [d4] at lp2
  obtain ⟨es, ep, hraw, ek⟩ := LP.ek2 (G := X.K) (H := H2) (C := isC f2 M2) dd' lp2
  have he : ∃ q, h'.get? s.heap.objs.size = some q := let ⟨q, _, _, hq, _⟩ := dd'; ⟨q, hq⟩
  exact ⟨.ref s.heap.objs.size, _, d_write I2 (by rw [e]; exact True.intro) hs he (dO_new hraw), rfl, disp_end st.mem st.base hn hS x' m' hh (ek_dr ek) hq⟩
theorem p_dic0 {k : Bool} : PE X (.Dict [] [] pos) (tR X Z b fun σ => (K.pur ([] : List (PyData × PyData))).bnd (dispW k)) := by
  refine ⟨fun pins s σ H Q I ⟨f, σ', M, st, q⟩ => ?_⟩
  have hn := I.hok.fresh (Nat.le_refl s.heap.objs.size)
  have hS : (s.heap.objs.size == sysModules) = false := beq_eq_false_iff_ne.mpr (Ne.symm (Nat.ne_of_lt I.big))
  have hraw : (s.heap.push { cls := .type "dict", data := .dict #[] }).DictRaw s.heap.objs.size ([] : List DictEntry).toArray 0 := ⟨_, Heap.get?_push_size _ rfl, ⟨rfl, rfl, rfl⟩, rfl⟩
  obtain ⟨m2, x2⟩ := st.mem.hide (b := b) hn (o := .dK []) trivial
  have hq : Then X.K X.w b f M H (dispW k [] M) (fun z f' M' H' => ∀ v, RW X.K X.w f' M' H' v z → Q v H') (erW X Z σ) := q
  have fin := disp_end (ep := 0) st.mem st.base hn hS x2 m2 (.inl rfl) DRk.nil hq
  have e2 : upd (upd H s.heap.objs.size (.dK [])) s.heap.objs.size (dO s.heap.objs.size [] 0) = upd H s.heap.objs.size (dO s.heap.objs.size [] 0) := by
    funext a
    by_cases ha : a = s.heap.objs.size
    · rw [ha, upd_same, upd_same]
    · rw [upd_ne ha, upd_ne ha, upd_ne ha]
  rw [e2] at fin
  exact wpAny_Dict_empty ⟨.ref s.heap.objs.size, _, I.laid (a := s.heap.objs.size) (t' := s.toks) (fun _ _ q => Heap.get?_push_of_some _ q) (Nat.le_refl _) (dO_new hraw), rfl, fin⟩
end
end Cs
set_option Elab.async false
set_option linter.all false
set_option autoImplicit false
set_option maxRecDepth 100000
set_option maxHeartbeats 4000000
/-! set(x) of a tuple or a list, by what putting one item in does. -/
namespace Cs
open PySem L2 PyProof.Rows
/-- the object of a new set -/
abbrev setNew (w : World) : Obj := { cls := .type "set", dict := none, data := .set #[] 0 (.fresh 0 0 (!w.params.followText "set-order")) }
section
variable {P : Program} {w : World}
/-- one item is put in -/
def Puts (P : Program) (w : World) (u : Nat) (S : Addr) (h0 : Heap) (vs : List Value) (J : Nat → Heap → Prop) : Prop :=
  ∀ (A : Around) (E : Value → Shared → Prop) (i : Nat) (v : Value) (s : Shared) (Q : Bool → Shared → Prop), A.units ≤ u → vs[i]? = some v → (∀ b o, h0.get? b = some o → s.heap.get? b = some o) → J i s.heap →
    (∀ b h' tk, s.toks ≤ tk → Heap.SameBut S s.heap h' → J (i + 1) h' → Q b { s with heap := h', toks := tk }) → wpAny (model P w) A (setAdd S v) Q E s
/-- what is in stays in -/
def StaysIn (S : Addr) (h0 : Heap) (J : Nat → Heap → Prop) : Prop := ∀ i h h', J i h → (∀ o, h.get? S = some o → h'.get? S = some o) → (∀ b o, h0.get? b = some o → h'.get? b = some o) → J i h'
theorem upd_loop {A : Around} {It S : Addr} {fp wr : List Addr} {G : Array GenState → Array GenState → Prop} {n : Nat} {Pv : Nat → Value → Prop} {St : Nat → Shared → Prop} {R : Result → Shared → Prop} {u : Nat} {h0 : Heap} {vs : List Value} {J : Nat → Heap → Prop}
    (W : WalksS P w A.in1 It fp wr G n Pv St) (hu : A.in1.units ≤ u) (hSf : S ∉ fp) (hS0 : h0.get? S = none) (hw0 : ∀ b ∈ wr, h0.get? b = none) (hval : ∀ i v, Pv i v → vs[i]? = some v) (step : Puts P w u S h0 vs J) (keep : StaysIn S h0 J) :
    ∀ (k i : Nat) (s : Shared), n - i = k → i ≤ n → St i s → (∀ b o, h0.get? b = some o → s.heap.get? b = some o) → J i s.heap →
      (∀ s', Moved (S :: wr) G s s' → J n s'.heap → (∀ b o, h0.get? b = some o → s'.heap.get? b = some o) → R (.ok (.ret .none)) s') →
      codeAny (model P w) A (.builtin "set.update.loop" ⟨[.ref S, .ref It], []⟩) R s := by
  have apart : S ∉ wr := fun h => hSf (W.sub _ h)
  have more : ∀ b ∈ wr, b ∈ S :: wr := fun b hb => List.mem_cons_of_mem _ hb
  have old : ∀ {s s' : Shared}, Moved wr G s s' → (∀ b o, h0.get? b = some o → s.heap.get? b = some o) → ∀ b o, h0.get? b = some o → s'.heap.get? b = some o := fun hm hkp b o e =>
    hm.heap b o (fun hb => by rw [hw0 b hb] at e; cases e) (hkp b o e)
  intro k; induction k with
  | zero =>
    intro i s hk' hi hst hkp hJ hR
    obtain rfl : i = n := by omega
    refine codeAny_builtin F.entry_set_update_loop ?_; rw [Around.under_plainId F.plain_set_update_loop _]
    show wpAny _ A.in1 (pyNext (.ref It) >>= _) _ _ s
    refine wpAny_bind (W.done s _ _ hst fun s' hm => ?_)
    show wpAny _ A.in1 (ret Value.none) _ _ s'
    exact wpAny_pure (hR s' (hm.mono more) (keep i _ _ hJ (fun o e => hm.heap S o apart e) (old hm hkp)) (old hm hkp))
  | succ k ih =>
    intro i s hk' hi hst hkp hJ hR
    have below : i < n := by omega
    refine codeAny_builtin F.entry_set_update_loop ?_; rw [Around.under_plainId F.plain_set_update_loop _]
    show wpAny _ A.in1 (pyNext (.ref It) >>= _) _ _ s
    refine wpAny_bind (W.item i s _ _ below hst fun v s' hP hst' hm => ?_)
    have hkp' := old hm hkp
    show wpAny _ A.in1 (holding [v] (setAdd S v) >>= _) _ _ s'
    refine wpAny_bind (wpAny_holding ?_)
    refine step A.in1 _ i v s' _ hu (hval i v hP) hkp' (keep i _ _ hJ (fun o e => hm.heap S o apart e) hkp') fun b h' tk htk hsb hJ' => ?_
    have hkp2 : ∀ b o, h0.get? b = some o → h'.get? b = some o := fun b o e => (hsb.2 b (fun z => by rw [z, hS0] at e; cases e)).trans (hkp' b o e)
    refine wpAny_pure ⟨plainId_quiet F.plain_set_update_loop _, ih (i + 1) _ (by omega) below (W.frame _ s' _ _ hst' htk fun b hb o e => ?_) hkp2 hJ' fun s'' hm'' hJ'' hkp'' => ?_⟩
    · rw [hsb.2 b (fun h : b = S => hSf (by rw [← h]; exact hb))]; exact e
    · refine hR s'' (Moved.trans W.gtrans ((hm.mono more).then_heap htk fun b o hb e => ?_) hm'') hJ'' hkp''
      rw [hsb.2 b (fun h : b = S => hb (by rw [h]; exact List.mem_cons_self))]; exact e
set_option maxRecDepth 100000 in
set_option maxHeartbeats 3200000 in
/-- set(x), x a sequence of the class C, walked by an iterator of the class D -/
theorem set_of_seq {C D : String} {A : Around} {E : Value → Shared → Prop} {s : Shared} {l : Addr} {items : Array Value} {di1 : Option Addr} {n1 : Nat} {sl1 : Array (Option Value)} {J : Nat → Heap → Prop} {Q : Value → Shared → Prop} (hh : A.handled = none)
    (at1 : s.heap.get? l = some { cls := .type C, dict := di1, data := .seq items n1, slots := sl1 }) (sub1 : isSubtype (.type C) (.type "set") = pure false) (sub2 : isSubtype (.type C) (.type "frozenset") = pure false) (ne1 : (Value.type C == Value.type "dict") = false)
    (goes : ∀ (A' : Around) (E' : Value → Shared → Prop) (s' : Shared) (Q' : Value → Shared → Prop), s'.heap.get? l = some { cls := .type C, dict := di1, data := .seq items n1, slots := sl1 } → Q' (.ref s'.heap.objs.size) { s' with heap := s'.heap.push { cls := .type D, data := .fields #[.ref l, .int 0 0] } } →
      wpAny (model P w) A' (pyIter (.ref l)) Q' E' s')
    (walk : ∀ (A' : Around) (It : Addr), A'.handled = none → l ≠ It → ∃ St : Nat → Heap → Prop, Walks P w A' It [It, l] [It] items.size (fun i v => items[i]? = some v) St ∧
      ∀ h : Heap, h.get? It = some { cls := .type D, data := .fields #[.ref l, .int 0 0] } → h.get? l = some { cls := .type C, dict := di1, data := .seq items n1, slots := sl1 } → St 0 h)
    (j0 : ∀ h, h.get? s.heap.objs.size = some (setNew w) → (∀ b o, s.heap.get? b = some o → h.get? b = some o) → J 0 h) (step : Puts P w (A.units + 4) s.heap.objs.size s.heap items.toList J) (keep : StaysIn s.heap.objs.size s.heap J)
    (h : ∀ (h' : Heap) (tk : Nat), J items.size h' → (∀ b o, s.heap.get? b = some o → h'.get? b = some o) → Q (.ref s.heap.objs.size) { s with heap := h', toks := tk }) :
    wpAny (model P w) A (PySem.call (.type "set") [.ref l]) Q E s := by
  obtain ⟨c0, tl0, mro0⟩ := F.called_set.mro
  have made0 := F.called_set.made; have sub0 := F.called_set.sub
  refine wpAny_call (codeAny_of_tree ?_)
  show wpAny _ _ (callAny (.type "set") _) _ _ _
  refine wpAny_pure ⟨Code.quiet_builtin _ (by decide +kernel), codeAny_builtin F.entry_type_call ?_⟩
  rw [Around.under_plain (weight_type_call_type "set" [.ref l] []) rfl]
  have nt0 := F.called_set.notType; have cc0 := F.called_set.canCreate
  have tc0 := F.typeCall_set_1 (.ref l)
  repeat (any_goals (first | assumption | wp_step))
  refine codeAny_mono (code_set_led1 (.ref l) (E := E) (Q₁ := fun obj s₁ => obj = .ref s.heap.objs.size ∧ s₁ = { s with heap := s.heap.push (setNew w) }) ⟨rfl, rfl⟩) fun r s₁ hr => ?_
  cases r with
  | error e => exact hr
  | ok fl => cases fl with
    | ret obj =>
      obtain ⟨rfl, rfl⟩ := hr
      have atS : (s.heap.push (setNew w)).get? s.heap.objs.size = some (setNew w) := Heap.get?_push_size _ rfl
      have isS : Shared.TypeIs { s with heap := s.heap.push (setNew w) } (.ref s.heap.objs.size) "set" := ⟨_, atS, rfl⟩
      have li0 := F.called_set.init.lookup; have bi0 := F.called_set.init.bind (.ref s.heap.objs.size)
      repeat (any_goals (first | assumption | wp_step))
      refine codeAny_mono (codeAny_call_builtin (R := wants (fun r s₂ => r = .none ∧ ∃ h' tk, s₂ = { s with heap := h', toks := tk } ∧ J items.size h' ∧ (∀ b o, s.heap.get? b = some o → h'.get? b = some o)) E)
        F.called_set.init.plain F.entry_set_init (check_set_init_1 isS ?_)) fun r₂ s₂ hr₂ => ?_
      · have at2 : (s.heap.push (setNew w)).get? l = some { cls := .type C, dict := di1, data := .seq items n1, slots := sl1 } := Heap.get?_push_of_some _ at1
        unfold Builtin.«set.__init__» noKeywords Builtin.Frozenset.updateFrom; generalize hPI : pyIter = PI
        wp_walk; subst hPI
        refine goes _ _ _ _ at2 ?_
        refine wpAny_bind (wpAny_runValue ?_)
        have low : l < s.heap.objs.size := Heap.lt_size at1
        have hh3 : A.in1.in1.in1.handled = none := by simp [hh]
        have neI : l ≠ (s.heap.push (setNew w)).objs.size := by rw [Heap.size_push]; exact Nat.ne_of_lt (Nat.lt_succ_of_lt low)
        have offS : s.heap.objs.size ∉ [(s.heap.push (setNew w)).objs.size, l] := by
          rw [Heap.size_push]; simp only [List.mem_cons, List.mem_singleton, List.not_mem_nil, or_false, not_or]; exact ⟨Nat.ne_of_lt (Nat.lt_succ_self _), Nat.ne_of_gt low⟩
        have none_at : ∀ b, s.heap.objs.size ≤ b → s.heap.get? b = none := fun b hb => by
          cases q : s.heap.get? b with
          | none => rfl
          | some o => exact absurd (Nat.lt_of_lt_of_le (Heap.lt_size q) hb) (Nat.lt_irrefl _)
        obtain ⟨St, wk, st0⟩ := walk A.in1.in1.in1 _ hh3 neI
        refine upd_loop (u := A.units + 4) (vs := items.toList) (J := J) (h0 := s.heap) wk.toS (by simp only [Around.in1_units]; omega) (S := s.heap.objs.size) offS (none_at _ (Nat.le_refl _))
          (fun b hb => none_at b (by rw [List.mem_singleton.mp hb, Heap.size_push]; exact Nat.le_succ _)) (fun i v hv => by rw [Array.getElem?_toList]; exact hv) step keep (items.size - 0) 0 _ (by omega) (Nat.zero_le _)
          (st0 _ (Heap.get?_push_size _ rfl) (Heap.get?_push_of_some _ at2)) (fun b o e => Heap.get?_push_of_some _ (Heap.get?_push_of_some _ e)) ?hS0 ?hR
        case hS0 => exact j0 _ (Heap.get?_push_of_some _ atS) (fun b o e => Heap.get?_push_of_some _ (Heap.get?_push_of_some _ e))
        case hR =>
          intro s' hm hJ' hkp
          obtain ⟨h', g2, d', tk', os'⟩ := s'
          obtain rfl : g2 = s.gens := hm.gens
          obtain rfl : d' = s.drawn := hm.drawn
          obtain rfl : os' = s.os := hm.os
          show wpAny _ _ _ _ _ _
          refine wpAny_pure ?_; show wpAny _ _ (ret Value.none) _ _ _
          exact wpAny_pure ⟨rfl, h', tk', rfl, hJ', hkp⟩
      · cases r₂ with
        | error e => exact hr₂
        | ok fl₂ => cases fl₂ with
          | ret r =>
            obtain ⟨rfl, h', tk, rfl, hJ', hk'⟩ := hr₂
            repeat (any_goals (first | assumption | wp_step))
            exact h _ _ hJ' hk'
          | _ => exact hr₂.elim
    | _ => exact hr.elim
/-- set(x), x a tuple -/
theorem set_of_tuple {A : Around} {E : Value → Shared → Prop} {s : Shared} {l : Addr} {items : Array Value} {J : Nat → Heap → Prop} {Q : Value → Shared → Prop} (hh : A.handled = none) (hl : s.heap.IsTuple l items)
    (j0 : ∀ h, h.get? s.heap.objs.size = some (setNew w) → (∀ b o, s.heap.get? b = some o → h.get? b = some o) → J 0 h) (step : Puts P w (A.units + 4) s.heap.objs.size s.heap items.toList J) (keep : StaysIn s.heap.objs.size s.heap J)
    (h : ∀ (h' : Heap) (tk : Nat), J items.size h' → (∀ b o, s.heap.get? b = some o → h'.get? b = some o) → Q (.ref s.heap.objs.size) { s with heap := h', toks := tk }) :
    wpAny (model P w) A (PySem.call (.type "set") [.ref l]) Q E s := by
  obtain ⟨⟨cl1, di1, da1, sl1⟩, at1, e1, n1, e2⟩ := hl
  simp only at e1 e2; subst e1; subst e2
  exact set_of_seq (C := "tuple") (D := "tuple_iterator") hh at1 F.sub_tuple_set F.sub_tuple_frozenset (by decide) (fun A' E' s' Q' e q => wpAny_pyIter_tuple ⟨_, e, rfl, _, rfl⟩ q)
    (fun A' It ha ne => ⟨_, Walks.tuple ha It l ne items, fun h e1 e2 => ⟨⟨_, e1, rfl, rfl⟩, ⟨_, e2, rfl, _, rfl⟩⟩⟩) j0 step keep h
/-- set(x), x a list -/
theorem set_of_list {A : Around} {E : Value → Shared → Prop} {s : Shared} {l : Addr} {items : Array Value} {J : Nat → Heap → Prop} {Q : Value → Shared → Prop} (hh : A.handled = none) (hl : s.heap.IsList l items)
    (j0 : ∀ h, h.get? s.heap.objs.size = some (setNew w) → (∀ b o, s.heap.get? b = some o → h.get? b = some o) → J 0 h) (step : Puts P w (A.units + 4) s.heap.objs.size s.heap items.toList J) (keep : StaysIn s.heap.objs.size s.heap J)
    (h : ∀ (h' : Heap) (tk : Nat), J items.size h' → (∀ b o, s.heap.get? b = some o → h'.get? b = some o) → Q (.ref s.heap.objs.size) { s with heap := h', toks := tk }) :
    wpAny (model P w) A (PySem.call (.type "set") [.ref l]) Q E s := by
  obtain ⟨⟨cl1, di1, da1, sl1⟩, at1, e1, n1, e2⟩ := hl
  simp only at e1 e2; subst e1; subst e2
  exact set_of_seq (C := "list") (D := "list_iterator") hh at1 F.sub_list_set F.sub_list_frozenset (by decide) (fun A' E' s' Q' e q => wpAny_pyIter_list ⟨_, e, rfl, _, rfl⟩ q)
    (fun A' It ha ne => ⟨_, Walks.list ha It l ne items, fun h e1 e2 => ⟨⟨_, e1, rfl, rfl⟩, ⟨_, e2, rfl, _, rfl⟩⟩⟩) j0 step keep h
end
end Cs
set_option Elab.async false
set_option linter.all false
set_option autoImplicit false
set_option maxRecDepth 100000
set_option maxHeartbeats 1000000
/-! Sets of ints and texts. -/
namespace Cs
open PySem L2 PyProof.Rows
/-! ### what is left when the same are left out -/
theorem dedup_app : ∀ (l acc r : List PyData), dedup acc (l ++ r) = dedup (dedup acc l) r
  | [], _, _ => rfl
  | x :: l, acc, r => by
    simp only [List.cons_append, dedup]
    split <;> exact dedup_app l _ r
theorem dedup_len : ∀ (l acc : List PyData), acc.length ≤ (dedup acc l).length
  | [], _ => Nat.le_refl _
  | x :: l, acc => by
    simp only [dedup]
    split
    · exact dedup_len l acc
    · have := dedup_len l (acc ++ [x])
      simp at this
      omega
theorem dedup_mem : ∀ (l acc : List PyData) {y : PyData}, y ∈ dedup acc l → y ∈ acc ∨ y ∈ l
  | [], _, _, h => .inl h
  | x :: l, acc, y, h => by
    simp only [dedup] at h
    split at h
    · rcases dedup_mem l acc h with q | q
      · exact .inl q
      · exact .inr (List.mem_cons_of_mem _ q)
    · rcases dedup_mem l _ h with q | q
      · rcases List.mem_append.mp q with q | q
        · exact .inl q
        · exact .inr (by rw [List.mem_singleton.mp q]; exact List.mem_cons_self)
      · exact .inr (List.mem_cons_of_mem _ q)
theorem dedup_one (ds : List PyData) (x : PyData) : dedup ds [x] = if (ds.any fun y => PyData.eqv y x) = true then ds else ds ++ [x] := by
  simp only [dedup]
theorem dedup_take {xs : List PyData} {i : Nat} {x : PyData} (h : xs[i]? = some x) : dedup [] (xs.take (i + 1)) = dedup (dedup [] (xs.take i)) [x] := by
  rw [L2.take_next h, dedup_app]
theorem dedup_room {xs : List PyData} {i : Nat} {x : PyData} (h : xs[i]? = some x) : (dedup (dedup [] (xs.take i)) [x]).length ≤ (dedup [] xs).length := by
  have e : xs = xs.take (i + 1) ++ xs.drop (i + 1) := (List.take_append_drop _ _).symm
  have q := dedup_app (xs.take (i + 1)) [] (xs.drop (i + 1))
  rw [← e, dedup_take h] at q
  rw [q]
  exact dedup_len _ _
theorem any_mem {ds : List PyData} {x : PyData} (hd : ∀ y ∈ ds, isKey 8 y = true) (hx : isKey 8 x = true) : (ds.any fun y => PyData.eqv y x) = true ↔ x ∈ ds := by
  rw [List.any_eq_true]
  constructor
  · rintro ⟨y, hy, e⟩
    rw [← (eqv_key 8 y x (hd y hy) hx).1 e]; exact hy
  · exact fun h => ⟨x, h, eqv_refl_key 8 x hx⟩
theorem dedup_nodup : ∀ (l acc : List PyData), (∀ y ∈ l, isKey 8 y = true) → (∀ y ∈ acc, isKey 8 y = true) → acc.Nodup → (dedup acc l).Nodup
  | [], _, _, _, h => h
  | x :: l, acc, hl, ha, h => by
    simp only [dedup]
    have hx : isKey 8 x = true := hl x List.mem_cons_self
    split
    · exact dedup_nodup l acc (fun y hy => hl y (List.mem_cons_of_mem _ hy)) ha h
    · rename_i hn
      refine dedup_nodup l _ (fun y hy => hl y (List.mem_cons_of_mem _ hy)) (fun y hy => ?_) ?_
      · rcases List.mem_append.mp hy with q | q
        · exact ha y q
        · rw [List.mem_singleton.mp q]; exact hx
      · have hm : x ∉ acc := fun m => hn ((any_mem ha hx).2 m)
        exact (List.perm_append_singleton x acc).nodup_iff.mpr (List.nodup_cons.mpr ⟨hm, h⟩)

/-! ### the set -/
/-- the datum that an int or a text is -/
def datOf : Value → PyData
  | .int i _ => .int i
  | .str x _ => .str x
  | _ => .none
section
variable {P : Program} {w : World}
def GoodM (P : Program) (w : World) (e : Int × Value) : Prop := (mixKind P w).is (leaf (datOf e.2)) e.2 = true ∧ e.1 = (mixKind P w).hash (leaf (datOf e.2)) ∧ sort (datOf e.2) = 1
theorem is_dat {x : PyData} {v : Value} (hx : sort x = 1) (h : (mixKind P w).is (leaf x) v = true) : datOf v = x := by
  rcases keyIs_shape (show keyIs (leaf x) v = true from h) with ⟨i, t, e, rfl⟩ | ⟨z, t, e, rfl⟩
  · cases x <;> simp_all [leaf, sort, datOf]
  · cases x <;> simp_all [leaf, sort, datOf]
theorem scan_is {k : Key} {v : Value} (h : (mixKind P w).is k v = true) : v.scannable = true := by
  rcases keyIs_shape (show keyIs k v = true from h) with ⟨i, t, e, rfl⟩ | ⟨z, t, e, rfl⟩ <;> rfl
theorem elemsM {l : List (Int × Value)} (g : ∀ e ∈ l, GoodM P w e) : ElemsOf (mixKind P w) l := fun e he => ⟨⟨_, (g e he).1, (g e he).2.1⟩, scan_is (g e he).1⟩
theorem memM {l : List (Int × Value)} {x : PyData} (hx : sort x = 1) (g : ∀ e ∈ l, GoodM P w e) : (∃ e ∈ l, (mixKind P w).is (leaf x) e.2 = true) ↔ x ∈ l.map fun e => datOf e.2 := by
  rw [List.mem_map]
  constructor
  · rintro ⟨e, he, q⟩
    exact ⟨e, he, is_dat hx q⟩
  · rintro ⟨e, he, rfl⟩
    exact ⟨e, he, (g e he).1⟩
/-- a set of the ints and texts ds stands at a -/
def SetM (P : Program) (w : World) (h : Heap) (a : Addr) (ds : List PyData) : Prop :=
  ∃ o es ep t, h.get? a = some o ∧ o.ExactSet ∧ o.data = .set es ep t ∧ (∀ e ∈ es.toList, GoodM P w e) ∧ (es.toList.map fun e => datOf e.2).Perm ds ∧ es.size < scanBound ∧ t.fits es.size = true ∧ Ris t.place.toList ∧
    (w.params.followText "set-order" = true ∨ t.led = true)
theorem SetM.new {h : Heap} {a : Addr} (ho : h.get? a = some (setNew w)) : SetM P w h a [] :=
  ⟨_, #[], 0, _, ho, ⟨rfl, rfl, rfl⟩, rfl, (fun e he => by simp at he), .refl _, (by decide), (by rfl), List.Pairwise.nil, by
    show _ ∨ (!w.params.followText "set-order") = true
    cases w.params.followText "set-order"
    · exact .inr rfl
    · exact .inl rfl⟩
theorem SetM.at {h h' : Heap} {a : Addr} {ds : List PyData} (R : SetM P w h a ds) (k : ∀ o, h.get? a = some o → h'.get? a = some o) : SetM P w h' a ds := by
  obtain ⟨o, es, ep, t, ho, r⟩ := R
  exact ⟨o, es, ep, t, k o ho, r⟩
theorem SetM.len {h : Heap} {a : Addr} {ds : List PyData} (R : SetM P w h a ds) : ds.length < scanBound := by
  obtain ⟨o, es, ep, t, ho, _, _, _, p, z, _⟩ := R
  rw [← p.length_eq, List.length_map, Array.length_toList]; exact z
section
variable {A : Around} {E : Value → Shared → Prop} {s : Shared} {a : Addr}
theorem setM_tail {g : Bool → Sem Unit} (hg : ∀ (b : Bool) (s₁ : Shared) (Q' : Unit → Shared → Prop), Q' () s₁ → wpAny (model P w) A (g b) Q' E s₁)
    {o : Obj} {es : Array (Int × Value)} {ep : Nat} {t : SetTable} (ho : s.heap.get? a = some o) (hex : o.ExactSet) (hd : o.data = .set es ep t)
    {es1 : Array (Int × Value)} {t2 : SetTable} {ds : List PyData} (g1 : ∀ e ∈ es1.toList, GoodM P w e) (p1 : (es1.toList.map fun e => datOf e.2).Perm ds)
    (hb1 : es1.size < scanBound) (hf2 : t2.fits es1.size = true) (hr : Ris t2.place.toList) (hl : w.params.followText "set-order" = true ∨ t2.led = true) {wasDummy : Bool} {R : Option Bool → Shared → Prop}
    (hR : ∀ h', Heap.SameBut a s.heap h' → SetM P w h' a ds → R (some true) { s with heap := h' }) :
    wpAny (model P w) A (do
        storeSet a es1 t2
        if (!wasDummy && t2.tooFull) = true then do
            g (relayAll t2 es1 (SetTable.grown es1.size)).2.2
            storeSet a (relayAll t2 es1 (SetTable.grown es1.size)).1 (relayAll t2 es1 (SetTable.grown es1.size)).2.1
            pure (some true)
          else pure (some true)) R E s := by
  refine wpAny_bind (wpAny_storeSet_of ho hd ?_ (fits_of_scanBound hb1))
  have at1 := store_at (es' := es1) (t' := t2) ho hd
  have same1 := Heap.SameBut.update s.heap a (Obj.putSet es1 t2)
  split
  · have pm := relayAll_perm t2 es1 (SetTable.grown es1.size); have q1 := relayAll_fits t2 es1 (SetTable.grown es1.size)
    have q2 := relayAll_ris t2 es1 (SetTable.grown es1.size); have q3 := relayAll_led t2 es1 (SetTable.grown es1.size)
    generalize relayAll t2 es1 (SetTable.grown es1.size) = Z at pm q1 q2 q3 ⊢
    obtain ⟨es2, t3, gave⟩ := Z
    dsimp only at pm q1 q2 q3 ⊢
    have hsz : es2.size = es1.size := by rw [← Array.length_toList, pm.length_eq, Array.length_toList]
    have hb2 : es2.size < scanBound := by rw [hsz]; exact hb1
    refine wpAny_bind (hg _ _ _ ?_)
    refine wpAny_bind (wpAny_storeSet_of at1 rfl ?_ (fits_of_scanBound hb2))
    refine wpAny_pure (hR _ (same1.trans (Heap.SameBut.update _ a _)) ?_)
    exact ⟨_, es2, _, t3, store_at (es' := es2) (t' := t3) at1 rfl, hex, rfl, fun e he => g1 e (pm.mem_iff.mp he), (pm.map _).trans p1, hb2, q1, q2, hl.imp id fun z => by rw [q3]; exact z⟩
  · exact wpAny_pure (hR _ same1 ⟨_, es1, _, t2, at1, hex, rfl, g1, p1, hb1, hf2, hr, hl⟩)
theorem setM_add {x : PyData} {v : Value} {ds : List PyData} {Q : Bool → Shared → Prop} (hx : sort x = 1) (hkey : (mixKind P w).is (leaf x) v = true) (R : SetM P w s.heap a ds) (hs : ∀ y ∈ ds, sort y = 1) (room : (dedup ds [x]).length < scanBound)
    (hQ : ∀ b h', Heap.SameBut a s.heap h' → SetM P w h' a (dedup ds [x]) → Q b { s with heap := h' }) :
    wpAny (model P w) A (setAddHashed a v ((mixKind P w).hash (leaf x))) Q E s := by
  obtain ⟨o, es, ep, t, ho, hex, hd, g, pd, hb, hf, hr, hl⟩ := R
  have hsc : v.scannable = true := scan_is hkey
  have hel : ElemsOf (mixKind P w) es.toList := elemsM g
  have isin : (ds.any fun y => PyData.eqv y x) = true ↔ x ∈ ds := any_mem (fun y hy => leaf_key (hs y hy)) (leaf_key hx)
  unfold setAddHashed setAddHashedIn
  refine wpAny_holding (wpAny_bind (wpAny_setState_of ho hd hf ?_))
  dsimp only
  rw [byScan_of hsc hb hel]
  simp only [↓reduceIte]
  unfold setAddByScan
  refine wpAny_bind ?_
  refine wpAny_bind (wpAny_rule ?_)
  refine wpAny_bind (wpAny_setScan_of hkey ho hd hf hel ?_)
  cases hfi : List.findIdx? (fun e => (mixKind P w).is (leaf x) e.2) es.toList with
  | some j =>
    dsimp only
    obtain ⟨hj, pj, _⟩ := List.findIdx?_eq_some_iff_getElem.mp hfi
    have hm : x ∈ ds := pd.mem_iff.mp ((memM hx g).1 ⟨es.toList[j], List.getElem_mem hj, pj⟩)
    have e1 : dedup ds [x] = ds := by rw [dedup_one, if_pos (isin.2 hm)]
    refine wpAny_pure (wpAny_pure ?_)
    refine hQ _ s.heap (Heap.SameBut.refl a s.heap) ?_
    rw [e1]
    exact ⟨o, es, ep, t, ho, hex, hd, g, pd, hb, hf, hr, hl⟩
  | none =>
    dsimp only
    have hnk : x ∉ ds := fun z => by
      obtain ⟨e, he, q⟩ := (memM hx g).2 (pd.mem_iff.mpr z)
      have c := List.findIdx?_eq_none_iff.mp hfi e he
      rw [q] at c
      cases c
    have e1 : dedup ds [x] = ds ++ [x] := by rw [dedup_one, if_neg (fun z => hnk (isin.1 z))]
    rw [e1] at hQ room
    have gw : ∀ (b : Bool) {s₁ : Shared} {Q' : Unit → Shared → Prop}, Q' () s₁ → wpAny (model P w) A (match b with | true => rule "set.scan.the-table-gave-way" | false => pure ()) Q' E s₁ :=
      fun b s₁ Q' q => by cases b <;> first | exact wpAny_pure q | exact wpAny_rule q
    have pm := layNew_perm t es ((mixKind P w).hash (leaf x)) v; have q1 := layNew_fits t es ((mixKind P w).hash (leaf x)) v
    have q2 := layNew_ris t es ((mixKind P w).hash (leaf x)) v hr; have q3 := layNew_led t es ((mixKind P w).hash (leaf x)) v
    generalize layNew t es ((mixKind P w).hash (leaf x)) v = Z at pm q1 q2 q3 ⊢
    obtain ⟨es1, t1, wasDummy, gave⟩ := Z
    dsimp only at pm q1 q2 q3 ⊢
    rw [Array.toList_push] at pm
    have pc : es1.toList.Perm (((mixKind P w).hash (leaf x), v) :: es.toList) := pm.trans (List.perm_append_singleton _ _)
    have dv : datOf v = x := is_dat hx hkey
    have p1 : (es1.toList.map fun e => datOf e.2).Perm (ds ++ [x]) := by
      refine (pc.map _).trans ?_
      rw [List.map_cons]
      show (datOf v :: _).Perm _
      rw [dv]
      exact (pd.cons x).trans (List.perm_append_singleton _ _).symm
    have g1 : ∀ e ∈ es1.toList, GoodM P w e := fun e he => by
      rcases List.mem_cons.mp (pc.mem_iff.mp he) with z | z
      · rw [z]
        exact ⟨by show (mixKind P w).is (leaf (datOf v)) v = true; rw [dv]; exact hkey, by show _ = (mixKind P w).hash (leaf (datOf v)); rw [dv], by show sort (datOf v) = 1; rw [dv]; exact hx⟩
      · exact g e z
    have hb1 : es1.size < scanBound := by
      have := p1.length_eq
      rw [List.length_map, Array.length_toList] at this
      rw [this]; exact room
    have hled : w.params.followText "set-order" = true ∨ t1.led = true := hl.imp id fun z => by rw [q3]; exact z
    refine wpAny_bind (gw _ ?_)
    split
    · refine wpAny_bind ?_
      rw [hashByValue_scannable 8 hsc]
      refine wpAny_pure ?_
      refine setM_tail ?_ ho hex hd g1 p1 hb1 ?_ ?_ ?_ ?_
      · intro b s₁ Q' q; cases b <;> first | exact wpAny_pure q | exact wpAny_rule q
      · first | (split <;> first | exact q1 | exact SetTable.fits_plain_off q1) | exact q1
      · first | (split <;> exact q2) | exact q2
      · first | (split <;> exact hled) | exact hled
      · intro h' sb r; dsimp only; exact wpAny_pure (hQ _ h' sb r)
    · refine wpAny_bind (wpAny_pure ?_)
      simp only [↓reduceIte]
      refine setM_tail ?_ ho hex hd g1 p1 hb1 q1 q2 hled ?_
      · intro b s₁ Q' q; cases b <;> first | exact wpAny_pure q | exact wpAny_rule q
      · intro h' sb r; dsimp only; exact wpAny_pure (hQ _ h' sb r)
end
/-- the items that go in, one by one -/
theorem puts_leaf {u : Nat} {S : Addr} {h0 : Heap} {vs : List Value} {xs : List PyData} (hv : ∀ (i : Nat) (v : Value), vs[i]? = some v → ∃ x, xs[i]? = some x ∧ (mixKind P w).is (leaf x) v = true) (hs : ∀ x ∈ xs, sort x = 1)
    (room : (dedup [] xs).length < scanBound) : Puts P w u S h0 vs fun i h => SetM P w h S (dedup [] (xs.take i)) := by
  intro A E i v s Q hu hvi hkp hJ hQ
  obtain ⟨x, hxi, hkey⟩ := hv i v hvi
  have hx : sort x = 1 := hs x (List.mem_of_getElem? hxi)
  unfold setAdd
  refine wpAny_holding ?_
  refine wpAny_bind ((mixKind P w).pyHash hkey ?_)
  refine setM_add (s := { s with toks := s.toks + 1 }) hx hkey hJ (fun y hy => ?_) (Nat.lt_of_le_of_lt (dedup_room hxi) room) fun b h' hsb hS => hQ b h' (s.toks + 1) (Nat.le_succ _) hsb (by show SetM P w h' S (dedup [] (xs.take (i + 1))); rw [dedup_take hxi]; exact hS)
  rcases dedup_mem _ _ hy with q | q
  · simp at q
  · exact hs y (List.mem_of_mem_take q)
theorem stays_leaf {S : Addr} {h0 : Heap} {xs : List PyData} : StaysIn S h0 fun i h => SetM P w h S (dedup [] (xs.take i)) := fun i h h' hJ hk _ => hJ.at hk
end
end Cs
set_option Elab.async false
set_option linter.all false
set_option autoImplicit false
set_option maxRecDepth 100000
set_option maxHeartbeats 4000000
/-! Sets of tuples that are keys, fewer than 64. -/
namespace Cs
open PySem L2 PyProof.Rows
section
variable {P : Program} {w : World}
/-! ### small questions -/
def HashAt (P : Program) (w : World) (n : Nat) (s : Shared) (v : Value) : Prop := ∀ (A : Around) (E : Value → Shared → Prop) (Q : Bool → Shared → Prop), (∀ b, Q b s) → wpAny (model P w) A (hashByValue n v) Q E s
def OfAt (P : Program) (w : World) (n : Nat) (s : Shared) (v : Value) : Prop := ∀ (A : Around) (E : Value → Shared → Prop) (Q : Bool → Shared → Prop), Q false s → wpAny (model P w) A (ofAClassStatement n v) Q E s
theorem HashAt.tuple {n : Nat} {s : Shared} {a : Addr} {o : Obj} {vs : Array Value} {m : Nat} (ho : s.heap.get? a = some o) (hc : o.cls = .type "tuple") (hd : o.data = .seq vs m) (hq : ∀ v ∈ vs.toList, HashAt P w n s v) : HashAt P w (n + 1) s (.ref a) := fun A E Q h => by
  have hT : s.TypeIs (.ref a) "tuple" := ⟨o, ho, hc⟩
  unfold hashByValue
  refine wpAny_bind (wpAny_specialOf hT F.slot_tuple_hash.lookup ?_)
  show wpAny _ _ (seqItems? (.ref a) >>= _) _ _ s
  refine wpAny_bind (wpAny_seqItems ho hd (wpAny_bind ?_))
  show wpAny _ _ (forIn vs _ _) _ _ s
  rw [← Array.forIn_toList]
  refine wpAny_forIn_list _ (fun rest r s' => r.1 = none ∧ s' = s ∧ ∀ v ∈ rest, HashAt P w n s v) _ ?_ ?_ _ _ ⟨rfl, rfl, hq⟩
  · rintro v rest r s' ⟨hr, rfl, hall⟩
    refine wpAny_bind (hall v List.mem_cons_self _ _ _ fun b => ?_)
    cases b with
    | false =>
      simp only [Bool.not_false, if_true]
      exact wpAny_pure (wpAny_pure (h false))
    | true =>
      simp only [Bool.not_true, Bool.false_eq_true, if_false]
      exact wpAny_pure ⟨rfl, rfl, fun u hu' => hall u (List.mem_cons_of_mem _ hu')⟩
  · rintro ⟨r1, r2⟩ s' ⟨hr, rfl, _⟩
    simp only at hr; subst hr
    exact wpAny_pure (h true)
theorem OfAt.tuple {n : Nat} {s : Shared} {a : Addr} {o : Obj} {vs : Array Value} {m : Nat} (ho : s.heap.get? a = some o) (hc : o.cls = .type "tuple") (hd : o.data = .seq vs m) (hq : ∀ v ∈ vs.toList, OfAt P w n s v) : OfAt P w (n + 1) s (.ref a) := fun A E Q h => by
  have hT : s.TypeIs (.ref a) "tuple" := ⟨o, ho, hc⟩
  unfold ofAClassStatement
  refine wpAny_bind (wpAny_typeOf hT ?_)
  dsimp only
  have e : (("tuple" : String) == "tuple") = true := by decide
  simp only [e, if_true, Bool.not_true, Bool.false_eq_true, if_false]
  try refine wpAny_bind (wpAny_pure ?_)
  try simp only [Bool.not_true, Bool.false_eq_true, if_false]
  show wpAny _ _ (seqItems? (.ref a) >>= _) _ _ s
  refine wpAny_bind (wpAny_seqItems ho hd ?_)
  dsimp only
  refine wpAny_bind ?_
  show wpAny _ _ (forIn vs _ _) _ _ s
  rw [← Array.forIn_toList]
  refine wpAny_forIn_list _ (fun rest r s' => r.1 = none ∧ s' = s ∧ ∀ v ∈ rest, OfAt P w n s v) _ ?_ ?_ _ _ ⟨rfl, rfl, hq⟩
  · rintro v rest r s' ⟨hr, rfl, hall⟩
    refine wpAny_bind (hall v List.mem_cons_self _ _ _ ?_)
    simp only [Bool.false_eq_true, if_false]
    exact wpAny_pure ⟨rfl, rfl, fun u hu' => hall u (List.mem_cons_of_mem _ hu')⟩
  · rintro ⟨r1, r2⟩ s' ⟨hr, rfl, _⟩
    simp only at hr; subst hr
    exact wpAny_pure h
mutual
theorem hash_nested : ∀ (k : NestedKey) (v : Value) (n : Nat) (s : Shared), NestedIs s.heap k v → k.depth ≤ n → HashAt P w n s v
  | .none, _, n, s, x, _ => by cases x; intro A E Q h; cases n <;> exact wpAny_pure (h true)
  | .num i, _, n, s, x, _ => by cases x <;> (intro A E Q h; cases n <;> exact wpAny_pure (h true))
  | .text y, _, n, s, x, _ => by cases x; intro A E Q h; cases n <;> exact wpAny_pure (h false)
  | .tup ks, _, n, s, x, hn => by
    cases x with
    | tup hg hc hd hk =>
      simp only [NestedKey.depth] at hn
      cases n with
      | zero => omega
      | succ n => exact .tuple hg hc hd (hash_nesteds ks _ n s hk (by omega))
theorem hash_nesteds : ∀ (ks : List NestedKey) (vs : List Value) (n : Nat) (s : Shared), NestedAll s.heap ks vs → NestedKey.depthAll ks ≤ n → ∀ v ∈ vs, HashAt P w n s v
  | [], _, n, s, x, _, v, hv => by cases x; cases hv
  | k :: ks, _, n, s, x, hn, v, hv => by
    cases x with
    | cons x1 x2 =>
      simp only [NestedKey.depthAll] at hn
      rcases List.mem_cons.mp hv with e | hv
      · rw [e]; exact hash_nested k _ n s x1 (by omega)
      · exact hash_nesteds ks _ n s x2 (by omega) v hv
end
mutual
theorem of_nested : ∀ (k : NestedKey) (v : Value) (n : Nat) (s : Shared), NestedIs s.heap k v → k.depth ≤ n → OfAt P w n s v
  | .none, _, n, s, x, _ => by cases x; intro A E Q h; cases n <;> exact wpAny_pure h
  | .num i, _, n, s, x, _ => by cases x <;> (intro A E Q h; cases n <;> exact wpAny_pure h)
  | .text y, _, n, s, x, _ => by cases x; intro A E Q h; cases n <;> exact wpAny_pure h
  | .tup ks, _, n, s, x, hn => by
    cases x with
    | tup hg hc hd hk =>
      simp only [NestedKey.depth] at hn
      cases n with
      | zero => omega
      | succ n => exact .tuple hg hc hd (of_nesteds ks _ n s hk (by omega))
theorem of_nesteds : ∀ (ks : List NestedKey) (vs : List Value) (n : Nat) (s : Shared), NestedAll s.heap ks vs → NestedKey.depthAll ks ≤ n → ∀ v ∈ vs, OfAt P w n s v
  | [], _, n, s, x, _, v, hv => by cases x; cases hv
  | k :: ks, _, n, s, x, hn, v, hv => by
    cases x with
    | cons x1 x2 =>
      simp only [NestedKey.depthAll] at hn
      rcases List.mem_cons.mp hv with e | hv
      · rw [e]; exact of_nested k _ n s x1 (by omega)
      · exact of_nesteds ks _ n s x2 (by omega) v hv
end
/-! ### keys that stand at an address -/
abbrev hN (w : World) (d : PyData) : Int := (nk d).hash w
/-- the tuple at a is the datum d -/
def IsN (P : Program) (w : World) (h : Heap) (d : PyData) (a : Addr) : Prop := (nestedKind P w).is h (nk d) a ∧ isKey 8 d = true
section
variable {A : Around} {E : Value → Shared → Prop} {s : Shared}
theorem seen_n {d : PyData} {b : Addr} {Q : Bool → Shared → Prop} (hk : IsN P w s.heap d b) {ys : List Value} (hy : ∀ y ∈ ys, ∃ d' c, y = Value.ref c ∧ IsN P w s.heap d' c) (h : Q false s) :
    wpAny (model P w) A (searchCouldBeSeen (.ref b) ys) Q E s := by
  unfold searchCouldBeSeen
  refine wpAny_bind (wpAny_forIn_list _ (fun rest r s' => r.1 = none ∧ s' = s ∧ ∀ y ∈ rest, ∃ d' c, y = Value.ref c ∧ IsN P w s.heap d' c) _ ?_ ?_ _ _ ⟨rfl, rfl, hy⟩)
  · rintro v rest r s' ⟨hr, rfl, hall⟩
    obtain ⟨d', c, rfl, hc⟩ := hall v List.mem_cons_self
    have left : ∀ y ∈ rest, ∃ d' c, y = Value.ref c ∧ IsN P w s'.heap d' c := fun u hu' => hall u (List.mem_cons_of_mem _ hu')
    dsimp only
    by_cases hv : (b == c || (carriedByValue (.ref b) && carriedByValue (.ref c))) = true
    · exact wp_if_pos hv (wpAny_pure ⟨rfl, rfl, left⟩)
    · refine wp_if_neg hv (wpAny_bind ((nestedKind P w).quiet hk.1 ?_))
      simp only [Bool.not_true, Bool.false_eq_true, if_false]
      refine wpAny_bind ((nestedKind P w).quiet hc.1 ?_)
      simp only [Bool.not_true, Bool.false_eq_true, if_false]
      refine wpAny_bind (of_nested _ _ 8 _ hk.1.1 hk.1.2 _ _ _ ?_)
      simp only [Bool.false_eq_true, if_false]
      refine wpAny_bind (of_nested _ _ 8 _ hc.1.1 hc.1.2 _ _ _ ?_)
      simp only [Bool.false_eq_true, if_false]
      exact wpAny_pure ⟨rfl, rfl, left⟩
  · rintro ⟨r1, r2⟩ s' ⟨hr, rfl, _⟩
    simp only at hr; subst hr
    exact wpAny_pure h
theorem eq_n {d d' : PyData} {a b : Addr} {Q : Bool → Shared → Prop} (hu : A.units + 8 < cLine) (ha : IsN P w s.heap d a) (hb : IsN P w s.heap d' b) (h1 : d = d' → Q true s) (h2 : d ≠ d' → Q false s) :
    wpAny (model P w) A (eqBool (.ref a) (.ref b)) Q E s := by
  refine (nestedKind P w).eqBool hu ha.1 hb.1 ?_
  by_cases e : nk d = nk d'
  · rw [decide_eq_true e]; exact h1 (nk_inj 8 _ _ ha.2 hb.2 e)
  · rw [decide_eq_false e]; exact h2 fun q => e (by rw [q])
theorem isN_same {h h' : Heap} {d : PyData} {a b : Addr} {o : Obj} {es : Array (Int × Value)} {ep : Nat} {t : SetTable} (hb : IsN P w h d b) (ho : h.get? a = some o) (hd : o.data = .set es ep t) (hs : Heap.SameBut a h h') : IsN P w h' d b := by
  refine ⟨nestedKind_stays.stays (fun c u vs n e1 e2 => ?_) hb.1, hb.2⟩
  rw [hs.2 c fun e => ?_]; · exact e1
  subst e
  rw [ho] at e1; cases e1
  rw [hd] at e2; cases e2
theorem isN_keep {h h' : Heap} {d : PyData} {b : Addr} (x : IsN P w h d b) (hk : ∀ c o, h.get? c = some o → h'.get? c = some o) : IsN P w h' d b := ⟨nestedKind_stays.stays (fun c u vs n e1 _ => hk c u e1) x.1, x.2⟩
end

/-! ### the set -/
def rowsN (w : World) (L : List (Addr × PyData)) : List (Int × Value) := L.map fun p => (hN w p.2, Value.ref p.1)
structure SetN (P : Program) (w : World) (h : Heap) (a : Addr) (L : List (Addr × PyData)) (es : Array (Int × Value)) (ep : Nat) (t : SetTable) : Prop where
  ob : ∃ o, h.get? a = some o ∧ o.ExactSet ∧ o.data = .set es ep t
  rows : es.toList = rowsN w L
  tab : TabOk t (L.map fun p => hN w p.2)
  nd : (L.map (·.2)).Nodup
  tup : ∀ p ∈ L, IsN P w h p.2 p.1
  led : w.params.followText "set-order" = true ∨ t.led = true
  room : L.length * 5 < t.mask * 3
  few : L.length < 64
theorem rows_len {L : List (Addr × PyData)} {es : Array (Int × Value)} (r : es.toList = rowsN w L) : es.size = L.length := by
  rw [← Array.length_toList, r]; simp [rowsN]
theorem rows_at {L : List (Addr × PyData)} {es : Array (Int × Value)} (r : es.toList = rowsN w L) {i : Nat} {p : Addr × PyData} (h : L[i]? = some p) : es[i]? = some (hN w p.2, Value.ref p.1) := by
  rw [← Array.getElem?_toList, r]; simp [rowsN, h]
theorem fits_n {t : SetTable} {es : Array (Int × Value)} (hsz : t.place.size = es.size) (hdm : t.dummies = #[]) (hfl : es.size ≤ t.mask) : t.fits es.size = true := by
  unfold SetTable.fits SetTable.fill
  rw [hdm, Bool.and_eq_true, beq_iff_eq, decide_eq_true_eq]
  show t.place.size = es.size ∧ t.place.size + 0 ≤ t.mask
  omega
section
variable {A : Around} {E : Value → Shared → Prop} {s : Shared} {a : Addr} {L : List (Addr × PyData)} {es : Array (Int × Value)} {ep : Nat} {t : SetTable}
theorem SetN.psz {h : Heap} (R : SetN P w h a L es ep t) : t.place.size = es.size := by
  have := R.tab.sz
  rw [List.length_map] at this
  rw [this, rows_len R.rows]
theorem SetN.fits {h : Heap} (R : SetN P w h a L es ep t) : t.fits es.size = true := fits_n R.psz R.tab.dm (by have := R.room; have := rows_len R.rows; omega)
theorem SetN.gw {h : Heap} (R : SetN P w h a L es ep t) : ¬ t.gaveWay = true := by
  unfold SetTable.gaveWay
  rw [mask_odd R.tab.mok]; decide
/-- where a search begins -/
abbrev beg (t : SetTable) (h : Int) : SetTable.Probe := runAt t.mask (SetTable.bits h % (t.mask + 1)) (SetTable.bits h)
theorem nth_dummy (m : Nat) : ∀ (n : Nat) (p : SetTable.Probe), p.dummy = none → (nth m p n).dummy = none
  | 0, _, h => h
  | n + 1, p, h => nth_dummy m n (adv m p) (by unfold adv; split <;> exact h)
/-- a search, from the c-th step on -/
theorem search_n (R : SetN P w s.heap a L es ep t) {x : Addr} {k : PyData} (hx : IsN P w s.heap k x) (hu : A.units + 8 < cLine) {K : Nat} (hKf : K < 10 * SetTable.turns t.mask)
    (hK : way t.mask (hN w k) K ∉ t.place.toList) (hKb : ∀ c, c < K → way t.mask (hN w k) c ∈ t.place.toList) {Q : SetFound → Shared → Prop}
    (hin : k ∈ L.map (·.2) → Q (.there none) s) (hout : k ∉ L.map (·.2) → Q (.free (way t.mask (hN w k) K) false) s) :
    ∀ (f c : Nat) (stand : Option SetTable.Probe), stand.getD (t.probeStart (hN w k)) = nth t.mask (beg t (hN w k)) c → c ≤ K → K - c < f →
      (∀ (i : Nat) p, L[i]? = some p → p.2 = k → ∃ c', c ≤ c' ∧ c' < K ∧ t.place.toList[i]? = some (way t.mask (hN w k) c')) → wpAny (model P w) A (setSearchFrom a (.ref x) (hN w k) true f stand) Q E s
  | 0, c, stand, _, _, hf, _ => absurd hf (Nat.not_lt_zero _)
  | f + 1, c, stand, hst, hc, hf, hre => by
    obtain ⟨o, ho, _, hd⟩ := R.ob
    rw [setSearchFrom_succ]
    refine wpAny_bind (wpAny_setState_of ho hd R.fits ?_); dsimp only
    refine wp_if_neg R.gw ?_
    try refine wpAny_bind (wpAny_pure ?_)
    have on : ∀ q, nth t.mask (nth t.mask (beg t (hN w k)) c) q = nth t.mask (beg t (hN w k)) (c + q) := fun q => (nth_add t.mask c _ q).symm
    have onj : ∀ q, (nth t.mask (nth t.mask (beg t (hN w k)) c) q).j = way t.mask (hN w k) (c + q) := fun q => congrArg SetTable.Probe.j (on q)
    have spec := go_spec t R.tab.ris R.tab.dm (fun i => (es[i]?.map (·.1)).getD 0) (hN w k) (10 * SetTable.turns t.mask) (K - c) _ (nth_dummy t.mask c (beg t (hN w k)) rfl) (by omega)
      (fun q hq => by rw [onj]; exact hKb (c + q) (by omega)) (by rw [onj, show c + (K - c) = K by omega]; exact hK)
    have hashAt : ∀ (i : Nat) p, L[i]? = some p → (fun i => (es[i]?.map (·.1)).getD 0) i = hN w p.2 := fun i p hp => by
      show (es[i]?.map (·.1)).getD 0 = _
      rw [rows_at R.rows hp] <;> rfl
    rcases spec with ⟨q, i, hq, hi, hh, hno, hpr⟩ | ⟨hno, hpr⟩
    · have hpr' : t.probe (fun i => (es[i]?.map (·.1)).getD 0) (hN w k) (stand.getD (t.probeStart (hN w k))) = some (.candidate (way t.mask (hN w k) (c + q)) i (nth t.mask (beg t (hN w k)) (c + (q + 1)))) := by
        rw [hst, ← onj, ← on]; exact hpr
      rw [hpr']; dsimp only
      rw [onj] at hi
      have hil : i < L.length := by
        have h1 : i < t.place.toList.length := (List.getElem?_eq_some_iff.mp hi).1
        have h2 := R.psz; have h3 := rows_len R.rows
        rw [Array.length_toList] at h1; omega
      have hp : L[i]? = some L[i] := List.getElem?_eq_getElem hil
      generalize hpe : L[i] = p at hp
      have hmem : p ∈ L := List.mem_of_getElem? hp
      have hpt := R.tup p hmem
      have go : wpAny (model P w) A (searchRest a (.ref x) (hN w k) true f es t (way t.mask (hN w k) (c + q)) i (nth t.mask (beg t (hN w k)) (c + (q + 1)))) Q E s := by
        unfold searchRest
        rw [rows_at R.rows hp]; dsimp only
        refine wpAny_bind (wpAny_holding (eq_n hu hpt hx (fun hkk => ?_) fun hkk => ?_))
        · refine wpAny_bind (wpAny_setState_of ho hd R.fits ?_); dsimp only
          refine wp_if_pos (by simp) (wpAny_pure (hin (List.mem_map.mpr ⟨p, hmem, hkk⟩)))
        · refine wpAny_bind (wpAny_setState_of ho hd R.fits ?_); dsimp only
          refine wp_if_neg (by simp) ?_
          try refine wpAny_bind (wpAny_pure ?_)
          rw [sameMem]; dsimp only
          have hsl : t.slot (way t.mask (hN w k) (c + q)) = .live i := slot_live R.tab.ris hi
          simp only [if_true, hsl, rows_at R.rows hp]
          refine wpAny_bind (wpAny_isSame_ref_self (wpAny_bind (wpAny_pure ?_)))
          simp only [if_true]
          refine wp_if_neg (by simp) ?_
          refine search_n R hx hu hKf hK hKb hin hout f (c + (q + 1)) _ rfl (by omega) (by omega) fun i0 p0 h0 hk0 => ?_
          obtain ⟨c', a1, a2, a3⟩ := hre i0 p0 h0 hk0
          refine ⟨c', ?_, a2, a3⟩
          rcases Nat.lt_trichotomy c' (c + q) with z | z | z
          · exfalso
            refine hno (c' - c) i0 (by omega) (by rw [onj, show c + (c' - c) = c' by omega]; exact a3) ?_
            exact (hashAt i0 p0 h0).trans (congrArg (hN w) hk0)
          · exfalso
            rw [z] at a3
            have s0 := slot_live R.tab.ris a3
            rw [hsl] at s0; injection s0 with s0
            rw [← s0, hp] at h0
            exact hkk ((congrArg Prod.snd (Option.some.inj h0)).trans hk0)
          · omega
      by_cases hl : t.led = true
      · refine wp_if_neg (by simp [hl]) ?_
        try refine wpAny_bind (wpAny_pure ?_)
        exact go
      · refine wp_if_pos (by simp [hl]) ?_
        refine wpAny_bind (seen_n hx (fun y hy => ?_) ?_)
        · obtain ⟨e, he, ee⟩ := List.mem_map.mp hy
          have he1 : e ∈ es ∧ e.1 = hN w k := by simpa using he
          have he2 : e ∈ es.toList := by simpa using he1.1
          rw [R.rows] at he2
          obtain ⟨p2, hp2, e2⟩ := List.mem_map.mp he2
          exact ⟨p2.2, p2.1, by rw [← ee, ← e2], R.tup p2 hp2⟩
        · refine wp_if_neg (by decide) ?_
          try refine wpAny_bind (wpAny_pure ?_)
          exact go
    · have hpr' : t.probe (fun i => (es[i]?.map (·.1)).getD 0) (hN w k) (stand.getD (t.probeStart (hN w k))) = some (.empty (way t.mask (hN w k) K) none) := by
        have e2 : way t.mask (hN w k) K = (nth t.mask (nth t.mask (beg t (hN w k)) c) (K - c)).j := by rw [onj, show c + (K - c) = K by omega]
        rw [hst, e2]; exact hpr
      rw [hpr']; dsimp only
      refine wpAny_pure (hout fun hm => ?_)
      obtain ⟨p0, h0, hk0⟩ := List.mem_map.mp hm
      obtain ⟨i0, hi0, e0⟩ := List.getElem_of_mem h0
      have h00 : L[i0]? = some p0 := by rw [List.getElem?_eq_getElem hi0, e0]
      obtain ⟨c', a1, a2, a3⟩ := hre i0 p0 h00 hk0
      refine hno (c' - c) i0 (by omega) (by rw [onj, show c + (c' - c) = c' by omega]; exact a3) ?_
      exact (hashAt i0 p0 h00).trans (congrArg (hN w) hk0)
theorem search_new (R : SetN P w s.heap a L es ep t) {x : Addr} {k : PyData} (hx : IsN P w s.heap k x) (hu : A.units + 8 < cLine) {Q : SetFound → Shared → Prop} (hin : k ∈ L.map (·.2) → Q (.there none) s)
    (hout : ∀ K, k ∉ L.map (·.2) → way t.mask (hN w k) K ∉ t.place.toList → (∀ c, c < K → way t.mask (hN w k) c ∈ t.place.toList) → Q (.free (way t.mask (hN w k) K) false) s) :
    wpAny (model P w) A (setSearch a (.ref x) (hN w k) true) Q E s := by
  have hroom := R.room
  obtain ⟨K, hKf, hK, hKb⟩ := R.tab.first (by rw [List.length_map]; omega) (hN w k)
  have hbig : K < 100000 := by
    have : 10 * SetTable.turns t.mask ≤ 1420 := by
      unfold SetTable.turns
      rcases R.tab.mok with e | e | e <;> omega
    omega
  unfold setSearch
  refine search_n R hx hu hKf hK hKb hin (fun hn => hout K hn hK hKb) 100000 0 none rfl (Nat.zero_le _) (by omega) fun i p hp hk => ?_
  have hi : (L.map fun p => hN w p.2)[i]? = some (hN w k) := by rw [List.getElem?_map, hp, ← hk] <;> rfl
  have hil : i < t.place.toList.length := by
    have h1 : i < L.length := (List.getElem?_eq_some_iff.mp hp).1
    have h2 := R.psz; have h3 := rows_len R.rows
    rw [Array.length_toList]; omega
  have hj := List.getElem?_eq_getElem hil
  obtain ⟨c, hc, e⟩ := R.tab.before hK hi hj
  exact ⟨c, Nat.zero_le _, hc, by rw [hj, e]⟩
end
theorem order_n (L : List (Addr × PyData)) (es : Array (Int × Value)) (order : Array Nat) (hr : es.toList = rowsN w L) (hp : order.toList.Perm (List.range L.length)) :
    ∃ L2, (order.filterMap (es[·]?)).toList = rowsN w L2 ∧ L2.Perm L ∧ (L2.map fun p => hN w p.2) = order.toList.map fun i => (es.map (·.1)).getD i 0 := by
  have hsz := rows_len hr
  have key : ∀ l : List Nat, (∀ i ∈ l, i < L.length) → l.filterMap (fun i => es[i]?) = rowsN w (l.filterMap fun i => L[i]?) ∧ ((l.filterMap fun i => L[i]?).map fun p => hN w p.2) = l.map fun i => (es.map (·.1)).getD i 0 := by
    intro l; induction l with
    | nil => exact fun _ => ⟨rfl, rfl⟩
    | cons i l ih =>
      intro hl
      have hi := hl i List.mem_cons_self
      obtain ⟨e1, e3⟩ := ih fun j hj => hl j (List.mem_cons_of_mem _ hj)
      have g1 : L[i]? = some L[i] := List.getElem?_eq_getElem hi
      have g2 := rows_at hr g1
      rw [List.filterMap_cons_some g2, List.filterMap_cons_some g1]
      refine ⟨by rw [e1] <;> rfl, ?_⟩
      rw [List.map_cons, List.map_cons, e3]
      have e5 : (es.map (·.1))[i]? = some (hN w (L[i]).2) := by rw [Array.getElem?_map, g2] <;> rfl
      have e4 : (es.map (·.1)).getD i 0 = hN w (L[i]).2 := by simp [Array.getD_eq_getD_getElem?, e5]
      rw [e4]
  obtain ⟨e1, e3⟩ := key order.toList fun i hi => List.mem_range.mp (hp.mem_iff.mp hi)
  refine ⟨_, by first | (rw [Array.toList_filterMap]; exact e1) | simpa using e1, ?_, e3⟩
  have h2 : ∀ n, n ≤ L.length → (List.range n).filterMap (fun i => L[i]?) = L.take n := by
    intro n; induction n with
    | zero => intro _; rfl
    | succ n ih =>
      intro hn
      have hlt : n < L.length := hn
      rw [List.range_succ, List.filterMap_append, ih (Nat.le_of_lt hlt), List.take_succ, List.getElem?_eq_getElem hlt, List.filterMap_cons_some (List.getElem?_eq_getElem hlt)] <;> rfl
  have h3 := hp.filterMap fun i => L[i]?
  rw [h2 _ (Nat.le_refl _), List.take_length] at h3
  exact h3
section
variable {A : Around} {E : Value → Shared → Prop} {s : Shared} {a : Addr} {L : List (Addr × PyData)} {es : Array (Int × Value)} {ep : Nat} {t : SetTable}
/-- the table laid anew -/
theorem relay_n {o : Obj} (ho : s.heap.get? a = some o) (hex : o.ExactSet) (hd : o.data = .set es ep t) (hrows : es.toList = rowsN w L) (hsz : t.place.size = es.size) (hdm : t.dummies = #[]) (hfl : es.size ≤ t.mask)
    (nd : (L.map (·.2)).Nodup) (tup : ∀ p ∈ L, IsN P w s.heap p.2 p.1) (ld : w.params.followText "set-order" = true ∨ t.led = true) (few : L.length < 64) {wanted M : Nat}
    (hw : SetTable.sizeAbove wanted - 1 = M) (hM : MaskOk M) (hw2 : SetTable.sizeAbove wanted ≤ 128) (hn : L.length * 5 < M * 3) {Q : Unit → Shared → Prop}
    (hQ : ∀ h' L' es' ep' t', Heap.SameBut a s.heap h' → SetN P w h' a L' es' ep' t' → L'.Perm L → Q () { s with heap := h' }) : wpAny (model P w) A (setRelay a wanted) Q E s := by
  have hsl := rows_len hrows
  obtain ⟨t', order, e, hp, T, em, el, _, ed⟩ := relaid_ok t (hs := es.map (·.1)) (wanted := wanted) hw hM (by rw [Array.size_map, hsl]; omega)
  rw [Array.size_map, hsl] at hp
  obtain ⟨L2, r1, r2, r3⟩ := order_n L es order hrows hp
  rw [← r3] at T
  have hs2 : (order.filterMap (es[·]?)).size = es.size := by rw [rows_len r1, r2.length_eq, hsl]
  rw [setRelay_eq]
  refine wpAny_bind (wpAny_setState_of ho hd (fits_n hsz hdm hfl) ?_); dsimp only
  refine wp_if_neg (by rw [sizeLine_eq]; omega) ?_
  try refine wpAny_bind (wpAny_pure ?_)
  rw [e]; dsimp only
  refine wpAny_bind ?_
  refine wp_if_neg (by rw [hs2]; simp) ?_
  try refine wpAny_bind (wpAny_pure ?_)
  refine wpAny_pure ?_
  dsimp only
  refine wpAny_storeSet_of ho hd ?_ (by rw [hs2, hsl, sizeLine_eq]; omega)
  have sb : Heap.SameBut a s.heap (s.heap.update a (Obj.putSet (order.filterMap (es[·]?)) t')) := Heap.SameBut.update ..
  refine hQ _ L2 (order.filterMap (es[·]?)) (ep + 1) t' sb ⟨⟨_, store_at ho hd, ⟨hex.1, hex.2.1, hex.2.2⟩, rfl⟩, r1, T, (r2.map (·.2)).nodup_iff.mpr nd, fun p hpm => isN_same (tup p (r2.mem_iff.mp hpm)) ho hd sb, by rw [el]; exact ld, ?_, by rw [r2.length_eq]; exact few⟩ r2
  rw [r2.length_eq, em]; exact hn
/-- one more -/
theorem add_n (R : SetN P w s.heap a L es ep t) {x : Addr} {k : PyData} (hx : IsN P w s.heap k x) (hu : A.units + 8 < cLine) (hfew : k ∉ L.map (·.2) → L.length + 1 < 64) {Q : Bool → Shared → Prop}
    (hQ : ∀ b h' L' es' ep' t', Heap.SameBut a s.heap h' → SetN P w h' a L' es' ep' t' → (k ∈ L.map (·.2) → L' = L) → (k ∉ L.map (·.2) → L'.Perm ((x, k) :: L)) → Q b { s with heap := h' }) :
    wpAny (model P w) A (setAddHashed a (.ref x) (hN w k)) Q E s := by
  obtain ⟨o, ho, hex, hd⟩ := R.ob
  have hsl := rows_len R.rows
  have hroom := R.room
  unfold setAddHashed
  refine wpAny_holding ?_
  rw [show (100000 : Nat) = 99999 + 1 from rfl, setAddHashedIn_succ]
  refine wpAny_bind (wpAny_setState_of ho hd R.fits ?_); dsimp only
  refine wp_if_neg (by simp [byScan, Value.scannable]) ?_
  try refine wpAny_bind (wpAny_pure ?_)
  refine wpAny_bind (search_new R hx hu (fun hm => ?_) fun K hm hK hb => ?_)
  · dsimp only
    exact wpAny_pure (hQ false s.heap L es ep t (Heap.SameBut.refl a s.heap) R (fun _ => rfl) fun z => absurd hm z)
  · have hfew := hfew hm
    dsimp only
    refine wpAny_bind (wpAny_setState_of ho hd R.fits ?_); dsimp only
    obtain ⟨q1, q2, q3, q4, q5, q6, q7, q8, q9⟩ := R.tab.put hK hb
    generalize hpt : t.put (way t.mask (hN w k) K) = pt at q1 q3 q4 q5 q6 q7 q8 q9 ⊢
    obtain ⟨t1, p⟩ := pt
    dsimp only at q1 q3 q4 q5 q6 q7 q8 q9 ⊢
    subst q1
    have fin : ∀ t2 : SetTable, (t2 = t1 ∨ t2 = { t1 with plain := false }) → wpAny (model P w) A (do
        storeSet a (SetTable.insertAt es (SetTable.below t.place (way t.mask (hN w k) K)) (hN w k, Value.ref x)) t2
        if (!false && t2.tooFull) = true then do
            setRelay a (SetTable.grown (es.size + 1))
            pure true
          else pure true) Q E s := by
      intro t2 ht2
      have f1 : t2.place = t1.place ∧ t2.dummies = t1.dummies ∧ t2.mask = t1.mask ∧ t2.led = t1.led ∧ t2.tooFull = t1.tooFull := by
        rcases ht2 with rfl | rfl <;> exact ⟨rfl, rfl, rfl, rfl, rfl⟩
      obtain ⟨g1, g2, g3, g4, g5⟩ := f1
      have hin : (SetTable.insertAt es (SetTable.below t.place (way t.mask (hN w k) K)) (hN w k, Value.ref x)).toList = rowsN w (L.take (SetTable.below t.place (way t.mask (hN w k) K)) ++ (x, k) :: L.drop (SetTable.below t.place (way t.mask (hN w k) K))) := by
        rw [SetTable.toList_insertAt, R.rows]; simp [rowsN]
      generalize hpp : SetTable.below t.place (way t.mask (hN w k) K) = p at q2 q3 hin ⊢
      have pm := put_perm L p (x, k)
      have hlen : (L.take p ++ (x, k) :: L.drop p).length = L.length + 1 := pm.length_eq
      have hhs : (L.take p ++ (x, k) :: L.drop p).map (fun p => hN w p.2) = (L.map fun p => hN w p.2).take p ++ hN w k :: (L.map fun p => hN w p.2).drop p := by simp
      rw [← hhs] at q3
      have nd1 : ((L.take p ++ (x, k) :: L.drop p).map (·.2)).Nodup := by
        refine (pm.map (·.2)).nodup_iff.mpr ?_
        rw [List.map_cons]; exact List.nodup_cons.mpr ⟨hm, R.nd⟩
      have hes := rows_len hin
      rw [hlen] at hes
      generalize SetTable.insertAt es p (hN w k, Value.ref x) = es1 at hin hes ⊢
      generalize L.take p ++ (x, k) :: L.drop p = L1 at pm hlen q3 nd1 hin
      have T2 : TabOk t2 (L1.map fun p => hN w p.2) := by
        rcases ht2 with rfl | rfl
        · exact q3
        · exact ⟨q3.1, q3.2, q3.3, q3.4, q3.5, q3.6⟩
      refine wpAny_bind (wpAny_storeSet_of ho hd ?_ (by rw [hes, sizeLine_eq]; omega))
      have sb : Heap.SameBut a s.heap (s.heap.update a (Obj.putSet es1 t2)) := Heap.SameBut.update ..
      have ho1 := store_at (es' := es1) (t' := t2) ho hd
      generalize s.heap.update a (Obj.putSet es1 t2) = h1 at sb ho1 ⊢
      have tup1 : ∀ p ∈ L1, IsN P w h1 p.2 p.1 := fun p hp => by
        rcases List.mem_cons.mp (pm.mem_iff.mp hp) with e | hp
        · rw [e]; exact isN_same hx ho hd sb
        · exact isN_same (R.tup p hp) ho hd sb
      have ld1 : w.params.followText "set-order" = true ∨ t2.led = true := by rw [g4, q5]; exact R.led
      by_cases hf : t1.tooFull = true
      · refine wp_if_pos (by simp [g5, hf]) ?_
        have hfull : (L.length + 1) * 5 ≥ t1.mask * 3 := by
          have h := hf
          unfold SetTable.tooFull at h
          rw [decide_eq_true_eq, q9, List.length_map] at h
          exact h
        rw [hsl]
        have hsz1 : t2.place.size = es1.size := by
          have h := T2.sz
          rw [List.length_map, hlen] at h
          rw [h, hes]
        have cases2 : (t.mask = 7 ∧ L.length = 4) ∨ (t.mask = 31 ∧ L.length = 18) := by
          rw [q4] at hfull
          rcases R.tab.mok with e | e | e
          · left; rw [e] at hfull hroom; exact ⟨e, by omega⟩
          · right; rw [e] at hfull hroom; exact ⟨e, by omega⟩
          · exfalso; rw [e] at hfull; omega
        have go : ∀ M, SetTable.sizeAbove (SetTable.grown (L.length + 1)) - 1 = M → MaskOk M → SetTable.sizeAbove (SetTable.grown (L.length + 1)) ≤ 128 → (L.length + 1) * 5 < M * 3 →
            wpAny (model P w) A (setRelay a (SetTable.grown (L.length + 1))) (fun _ s' => wpAny (model P w) A (pure true) Q E s') E { s with heap := h1 } := fun M h1' h2' h3' h4' => by
          refine relay_n (s := { s with heap := h1 }) ho1 ⟨hex.1, hex.2.1, hex.2.2⟩ rfl hin hsz1 T2.dm (by rw [hes, g3, q4]; rcases cases2 with ⟨e, e2⟩ | ⟨e, e2⟩ <;> omega) nd1 tup1 ld1 (by rw [hlen]; exact hfew) h1' h2' h3' (by rw [hlen]; exact h4') ?_
          intro h2 L2 es2 ep2 t2 sb2 R2 pm2
          exact wpAny_pure (hQ true h2 L2 es2 ep2 t2 (sb.trans sb2) R2 (fun z => absurd z hm) fun _ => pm2.trans pm)
        refine wpAny_bind ?_
        rcases cases2 with ⟨_, e2⟩ | ⟨_, e2⟩
        · exact go 31 (by rw [e2, size_20]) (.inr (.inl rfl)) (by rw [e2, size_20]; decide) (by omega)
        · exact go 127 (by rw [e2, size_76]) (.inr (.inr rfl)) (by rw [e2, size_76]; decide) (by omega)
      · refine wp_if_neg (by simp [g5, hf]) ?_
        refine wpAny_pure (hQ true h1 L1 es1 (ep + 1) t2 sb ⟨⟨_, ho1, ⟨hex.1, hex.2.1, hex.2.2⟩, rfl⟩, hin, T2, nd1, tup1, ld1, ?_, by rw [hlen]; exact hfew⟩ (fun z => absurd z hm) fun _ => pm)
        have h := hf
        unfold SetTable.tooFull at h
        rw [decide_eq_true_eq, q9, List.length_map] at h
        rw [hlen, g3]
        omega
    by_cases hpl : t1.plain = true
    · refine wp_if_pos hpl (wpAny_bind ?_)
      refine hash_nested _ _ 8 _ hx.1.1 hx.1.2 _ _ _ fun b => ?_
      cases b with
      | true => exact fin _ (.inl rfl)
      | false => exact fin _ (.inr rfl)
    · refine wp_if_neg hpl (wpAny_bind ?_)
      exact wpAny_pure (fin _ (.inl rfl))
end
section
variable {ks : List (Addr × PyData)}
/-- the set of the first items -/
def InN (P : Program) (w : World) (S : Addr) (ks : List (Addr × PyData)) (i : Nat) (h : Heap) : Prop := ∃ L es ep t, SetN P w h S L es ep t ∧ (∀ p ∈ L, p ∈ ks) ∧ (L.map (·.2)).Perm (dedup [] ((ks.map (·.2)).take i))
theorem InN.new {h : Heap} {S : Addr} (ho : h.get? S = some (setNew w)) : InN P w S ks 0 h := by
  refine ⟨[], #[], 0, _, ⟨⟨_, ho, ⟨rfl, rfl, rfl⟩, rfl⟩, rfl, ⟨List.Pairwise.nil, rfl, rfl, .inl rfl, fun x hx => (by cases hx), fun i h j hi => (by simp at hi)⟩, List.nodup_nil, fun p hp => (by cases hp), ?_, ?_, ?_⟩, fun p hp => (by cases hp), by simp [dedup]⟩
  · show _ ∨ (!w.params.followText "set-order") = true
    cases w.params.followText "set-order"
    · exact .inr rfl
    · exact .inl rfl
  · show 0 * 5 < 7 * 3
    decide
  · show 0 < 64
    decide
theorem puts_n {u : Nat} {S : Addr} {h0 : Heap} {vs : List Value} (hu : u + 8 < cLine) (hv : vs = ks.map fun p => Value.ref p.1) (hk : ∀ p ∈ ks, IsN P w h0 p.2 p.1) (few : (dedup [] (ks.map (·.2))).length < 64) : Puts P w u S h0 vs (InN P w S ks) := by
  subst hv
  intro A E i v s Q hA hvi hkp ⟨L, es, ep, t, R, sub, pm⟩ hQ
  rw [List.getElem?_map] at hvi
  obtain ⟨p, hp, rfl⟩ := Option.map_eq_some_iff.mp hvi
  have hx : IsN P w s.heap p.2 p.1 := isN_keep (hk p (List.mem_of_getElem? hp)) hkp
  have hp2 : (ks.map (·.2))[i]? = some p.2 := by rw [List.getElem?_map, hp] <;> rfl
  have keyL : ∀ y ∈ dedup [] ((ks.map (·.2)).take i), isKey 8 y = true := fun y hy => by
    rcases dedup_mem _ _ hy with q | q
    · simp at q
    · obtain ⟨z, hz, rfl⟩ := List.mem_map.mp (List.mem_of_mem_take q)
      exact (hk z hz).2
  have isin := any_mem keyL hx.2
  have rm := dedup_room hp2
  rw [dedup_one] at rm
  have e1 := dedup_take hp2
  rw [dedup_one] at e1
  unfold setAdd
  refine wpAny_holding ?_
  refine wpAny_bind ((nestedKind P w).pyHash (show A.units + 8 < cLine by omega) hx.1 ?_)
  refine add_n (s := { s with toks := s.toks + _ }) R hx (by omega) (fun hm => ?_) fun b h' L' es' ep' t' hsb R' c1 c2 => hQ b h' _ (Nat.le_add_right _ _) hsb ⟨L', es', ep', t', R', ?_, ?_⟩
  · rw [if_neg (fun z => hm (pm.mem_iff.mpr (isin.1 z)))] at rm
    have := pm.length_eq
    simp at this rm
    omega
  · intro q hq
    rcases Classical.em (p.2 ∈ L.map (·.2)) with c | c
    · rw [c1 c] at hq; exact sub q hq
    · rcases List.mem_cons.mp ((c2 c).mem_iff.mp hq) with z | z
      · rw [z]; exact List.mem_of_getElem? hp
      · exact sub q z
  · rw [e1]
    rcases Classical.em (p.2 ∈ L.map (·.2)) with c | c
    · rw [c1 c, if_pos (isin.2 (pm.mem_iff.mp c))]; exact pm
    · rw [if_neg (fun z => c (pm.mem_iff.mpr (isin.1 z)))]
      have q : (L'.map (·.2)).Perm (p.2 :: L.map (·.2)) := (c2 c).map (·.2)
      exact (q.trans (pm.cons p.2)).trans (List.perm_append_singleton _ _).symm
theorem stays_n {S : Addr} {h0 : Heap} (hk : ∀ p ∈ ks, IsN P w h0 p.2 p.1) : StaysIn S h0 (InN P w S ks) := by
  intro i h h' ⟨L, es, ep, t, R, sub, pm⟩ hS hkp
  obtain ⟨o, ho, r⟩ := R.ob
  exact ⟨L, es, ep, t, ⟨⟨o, hS o ho, r⟩, R.rows, R.tab, R.nd, fun p hp => isN_keep (hk p (sub p hp)) hkp, R.led, R.room, R.few⟩, sub, pm⟩
end
end
end Cs
set_option Elab.async false
set_option linter.all false
set_option autoImplicit false
set_option maxRecDepth 100000
set_option maxHeartbeats 1000000
/-! sorted(set(x)), len(set(x)). -/
namespace Cs
open PySem L2 PyProof.Rows
open PySem.W (EachIs dataLe keyToks TotalLe)
/-! ### sorting has one outcome -/
theorem toks_inj {x y : PyData} (ha : PySem.W.alike x y = true) (e : keyToks x = keyToks y) : PyData.eqv x y = true := by
  cases h : PyData.eqv x y with
  | true => rfl
  | false =>
    have q := (PySem.W.toks_eqv x y ha).2 h [] [.inl 0]
    rw [← e, List.append_nil, PyProof.Rows.lex_irrefl] at q
    have r := PySem.W.lex_pre (keyToks x) [] [.inl 0]
    rw [List.append_nil, q] at r
    exact Bool.noConfusion (show false = true from r)
theorem sort_perm {xs ys : List PyData} (hp : xs.Perm ys) (ha : ∀ x ∈ ys, ∀ y ∈ ys, PySem.W.alike x y = true) (hk : ∀ x ∈ ys, isKey 8 x = true) : sortD xs = sortD ys := by
  have T : TotalLe (dataLe false (id : PyData → PyData)) := PySem.W.sortLe_total _ _ _
  refine List.Perm.eq_of_pairwise (le := fun a b => dataLe false id a b = true) (fun a b h1 h2 r1 r2 => ?_) (PySem.W.sort_pairwise T xs) (PySem.W.sort_pairwise T ys) (((List.mergeSort_perm xs _).trans hp).trans (List.mergeSort_perm ys _).symm)
  have m1 : a ∈ ys := hp.mem_iff.mp ((List.mergeSort_perm _ _).mem_iff.mp h1)
  have m2 : b ∈ ys := (List.mergeSort_perm _ _).mem_iff.mp h2
  have z1 : PySem.W.dataLt b a = false := by
    have q : (!PySem.W.dataLt b a) = true := r1
    simpa using q
  have z2 : PySem.W.dataLt a b = false := by
    have q : (!PySem.W.dataLt a b) = true := r2
    simpa using q
  have e : keyToks a = keyToks b := PyProof.Rows.lex_total (O := PyProof.Rows.itemOrd) _ _ z2 z1
  exact (eqv_key 8 a b (hk a m1) (hk b m2)).1 (toks_inj (ha a m1 b m2) e)
theorem perm_of_map {α β : Type} (f : α → β) : ∀ {bs : List β} {as : List α}, bs.Perm (as.map f) → ∃ as' : List α, as'.Perm as ∧ bs = as'.map f
  | [], as, h => by
    have := h.length_eq
    simp at this
    exact ⟨[], by rw [List.length_eq_zero_iff.mp this.symm], rfl⟩
  | b :: bs, as, h => by
    have hm : b ∈ as.map f := h.mem_iff.mp List.mem_cons_self
    obtain ⟨x, hx, rfl⟩ := List.mem_map.mp hm
    obtain ⟨l1, l2, rfl⟩ := List.append_of_mem hx
    have h2 : bs.Perm ((l1 ++ l2).map f) := by
      have q : (f x :: bs).Perm (f x :: (l1 ++ l2).map f) := by
        refine h.trans ?_
        rw [List.map_append, List.map_cons, List.map_append]
        exact List.perm_middle
      exact q.cons_inv
    obtain ⟨as', h3, rfl⟩ := perm_of_map f h2
    exact ⟨x :: as', (h3.cons x).trans List.perm_middle.symm, rfl⟩
theorem each_at {α β : Type} {R : α → β → Prop} : ∀ {as : List α} {bs : List β} {i : Nat} {a : α}, EachIs R as bs → as[i]? = some a → ∃ b, bs[i]? = some b ∧ R a b
  | _, _, i, _, .nil, h => by simp at h
  | _, _, 0, _, .cons r _, h => by simp at h; subst h; exact ⟨_, rfl, r⟩
  | _, _, i + 1, _, .cons _ t, h => by
    obtain ⟨b, h1, h2⟩ := each_at (i := i) t (by simpa using h)
    exact ⟨b, by simpa using h1, h2⟩
theorem each_fun {α β : Type} {R : α → β → Prop} (g : α → β) : ∀ {as : List α}, (∀ a ∈ as, R a (g a)) → EachIs R as (as.map g)
  | [], _ => .nil
  | a :: as, h => .cons (h a List.mem_cons_self) (each_fun g fun x hx => h x (List.mem_cons_of_mem _ hx))

/-! ### a set, by its data -/
def SetD (X : Cx) (H : Hp) (C : Addr → Prop) (h : Heap) (a : Addr) (ds : List PyData) : Prop :=
  ∃ o es ep t, h.get? a = some o ∧ o.ExactSet ∧ o.data = .set es ep t ∧ es.size = ds.length ∧ es.size < scanBound ∧ t.fits es.size = true ∧ Ris t.place.toList ∧ (X.w.params.followText "set-order" = true ∨ t.led = true) ∧
    ∀ acc : List Value, acc.Perm (es.toList.map (·.2)) → ∃ es', EachIs (IsD X H C) acc es' ∧ es'.Perm ds
section
variable {X : Cx} {H : Hp} {C : Addr → Prop}
theorem SetM.setD {h : Heap} {a : Addr} {ds : List PyData} (R : SetM X.prog X.w h a ds) : SetD X H C h a ds := by
  obtain ⟨o, es, ep, t, ho, hex, hd, g, pd, hb, hf, hr, hl⟩ := R
  refine ⟨o, es, ep, t, ho, hex, hd, ?_, hb, hf, hr, hl, fun acc hp => ⟨acc.map datOf, each_fun datOf fun v hv => ?_, ?_⟩⟩
  · rw [← pd.length_eq, List.length_map, Array.length_toList]
  · obtain ⟨e, he, rfl⟩ := List.mem_map.mp (hp.mem_iff.mp hv)
    obtain ⟨g1, _, g3⟩ := g e he
    exact ⟨_, leaf_sort X.prog X.w g3 g1, leaf_dr g3⟩
  · have q := hp.map datOf
    rw [List.map_map] at q
    exact q.trans pd
theorem InN.setD {h : Heap} {a : Addr} {ks : List (Addr × PyData)} (hk : ∀ p ∈ ks, IsD X H C (.ref p.1) p.2) (R : InN X.prog X.w a ks ks.length h) : SetD X H C h a (dedup [] (ks.map (·.2))) := by
  obtain ⟨L, es, ep, t, S, sub, pm⟩ := R
  rw [List.take_of_length_le (by simp)] at pm
  obtain ⟨o, ho, hex, hd⟩ := S.ob
  have hz := rows_len S.rows
  have hl := pm.length_eq
  rw [List.length_map] at hl
  refine ⟨o, es, ep, t, ho, hex, hd, by rw [hz, hl], by rw [hz]; exact Nat.lt_trans S.few (by decide), S.fits, S.tab.ris, S.led, fun acc hp => ?_⟩
  have e1 : es.toList.map (·.2) = L.map fun p => Value.ref p.1 := by rw [S.rows]; simp [rowsN]
  rw [e1] at hp
  obtain ⟨L', h1, rfl⟩ := perm_of_map _ hp
  refine ⟨L'.map (·.2), ?_, (h1.map _).trans pm⟩
  have all : ∀ l : List (Addr × PyData), (∀ p ∈ l, p ∈ ks) → EachIs (IsD X H C) (l.map fun p => Value.ref p.1) (l.map (·.2)) := by
    intro l
    induction l with
    | nil => intro _; exact .nil
    | cons p l ih => intro hs; exact .cons (hk p (hs p List.mem_cons_self)) (ih fun q hq => hs q (List.mem_cons_of_mem _ hq))
  exact all L' fun p hp => sub p (h1.mem_iff.mp hp)
section
variable {pins : List (Addr × Obj)} {σ : L2.St} {s : Shared}
theorem rows_of (I : Inv X pins σ H s) : ∀ {us : List Value} {ds : List PyData}, EachIs (IsD X H C) us ds → (∀ d ∈ ds, sort d = 2 ∧ isKey 8 d = true) →
    ∃ ks : List (Addr × PyData), us = ks.map (fun p => Value.ref p.1) ∧ ks.map (·.2) = ds ∧ (∀ p ∈ ks, IsN X.prog X.w s.heap p.2 p.1) ∧ ∀ p ∈ ks, IsD X H C (.ref p.1) p.2
  | _, _, .nil, _ => ⟨[], rfl, rfl, by simp, by simp⟩
  | _, _, .cons (b := d) ⟨v, r, q⟩ t, h => by
    obtain ⟨h1, h2⟩ := h _ List.mem_cons_self
    obtain ⟨ks, e1, e2, e3, e4⟩ := rows_of I t fun z hz => h z (List.mem_cons_of_mem _ hz)
    obtain ⟨a, rfl⟩ := tup_ref h1 q
    cases r
    refine ⟨(a, _) :: ks, by rw [e1]; rfl, by rw [← e2]; rfl, fun p hp => ?_, fun p hp => ?_⟩
    · rcases List.mem_cons.mp hp with rfl | hp
      · exact ⟨tup_is I h2 q rfl, h2⟩
      · exact e3 p hp
    · rcases List.mem_cons.mp hp with rfl | hp
      · exact ⟨.ref a, rfl, q⟩
      · exact e4 p hp
theorem setOk_def {xs : List PyData} (h : setOk xs = true) : (((∀ x ∈ xs, sort x = 1) ∧ (dedup [] xs).length < scanBound) ∨ ((∀ x ∈ xs, sort x = 2 ∧ isKey 8 x = true) ∧ (dedup [] xs).length < 64)) ∧ xs.length ≤ top := by
  unfold setOk at h
  simp only [Bool.and_eq_true, Bool.or_eq_true, List.all_eq_true, beq_iff_eq, decide_eq_true_eq] at h
  exact h
/-- a set of what stands in a list or a tuple -/
theorem set_items {E : Value → Shared → Prop} {l : Addr} {its : List Value} {xs : List PyData} {Q : Value → Shared → Prop} (I : Inv X pins σ H s) (hc : X.calm = true) (hu : X.A.units + 100 < cLine)
    (hl : s.heap.IsTuple l its.toArray ∨ s.heap.IsList l its.toArray) (he : EachIs (IsD X H C) its xs) (ok : setOk xs = true)
    (h : ∀ (h' : Heap) (tk : Nat), (∀ b o, s.heap.get? b = some o → h'.get? b = some o) → SetD X H C h' s.heap.objs.size (dedup [] xs) → Q (.ref s.heap.objs.size) { s with heap := h', toks := tk }) :
    wpAny (model X.prog X.w) X.A (PySem.call (.type "set") [.ref l]) Q E s := by
  have hh : X.A.handled = none := I.ok.hd hc
  have hlen : its.length = xs.length := he.length
  have gen : ∀ J : Nat → Heap → Prop, (∀ h, h.get? s.heap.objs.size = some (setNew X.w) → (∀ b o, s.heap.get? b = some o → h.get? b = some o) → J 0 h) → Puts X.prog X.w (X.A.units + 4) s.heap.objs.size s.heap its J → StaysIn s.heap.objs.size s.heap J →
      (∀ h', J xs.length h' → SetD X H C h' s.heap.objs.size (dedup [] xs)) → wpAny (model X.prog X.w) X.A (PySem.call (.type "set") [.ref l]) Q E s := fun J j0 st kp fin => by
    have fin' : ∀ (h' : Heap) (tk : Nat), J its.toArray.size h' → (∀ b o, s.heap.get? b = some o → h'.get? b = some o) → Q (.ref s.heap.objs.size) { s with heap := h', toks := tk } := fun h' tk hJ hk => h h' tk hk (fin h' (by rw [← hlen]; simpa using hJ))
    rcases hl with hl | hl
    · exact set_of_tuple hh hl j0 (by simpa using st) kp fin'
    · exact set_of_list hh hl j0 (by simpa using st) kp fin'
  rcases (setOk_def ok).1 with ⟨h1, h2⟩ | ⟨h1, h2⟩
  · refine gen (fun i h => SetM X.prog X.w h s.heap.objs.size (dedup [] (xs.take i))) (fun h e _ => SetM.new e) (puts_leaf (fun i v hv => ?_) h1 h2) stays_leaf fun h' hJ => ?_
    · obtain ⟨x, hx, v0, r, q⟩ := each_at he hv
      rw [leaf_rel (h1 x (List.mem_of_getElem? hx)) q] at r
      exact ⟨x, hx, kV_is r⟩
    · have q : SetM X.prog X.w h' s.heap.objs.size (dedup [] (xs.take xs.length)) := hJ
      rw [List.take_length] at q
      exact q.setD
  · obtain ⟨ks, e1, e2, e3, e4⟩ := rows_of I he h1
    have e5 : ks.length = xs.length := by rw [← e2, List.length_map]
    refine gen (InN X.prog X.w s.heap.objs.size ks) (fun h e _ => InN.new e) (puts_n (by omega) e1 e3 (by rw [e2]; exact h2)) (stays_n e3) fun h' hJ => ?_
    rw [← e5] at hJ
    have q := InN.setD (H := H) (C := C) e4 hJ
    rw [e2] at q
    exact q
theorem set_data {E : Value → Shared → Prop} {u : V} {v : Value} {x : PyData} {xs : List PyData} {Q : Value → Shared → Prop} (I : Inv X pins σ H s) (hc : X.calm = true) (hu : X.A.units + 100 < cLine) (rv : RelV u v) (tv : DT X.K X.w H C u x)
    (hx : seq2 x = some xs) (ok : setOk xs = true)
    (h : ∀ (h' : Heap) (tk : Nat), (∀ b o, s.heap.get? b = some o → h'.get? b = some o) → SetD X H C h' s.heap.objs.size (dedup [] xs) → Q (.ref s.heap.objs.size) { s with heap := h', toks := tk }) :
    wpAny (model X.prog X.w) X.A (PySem.call (.type "set") [v]) Q E s := by
  cases x with
  | list ds =>
    simp only [seq2, Option.some.injEq] at hx
    subst hx
    obtain ⟨a, vs, rfl, h1, h2⟩ := tv
    cases rv
    obtain ⟨its, n, r, _, ho⟩ := rd_lst I h1
    exact set_items I hc hu (.inr ⟨_, ho, rfl, n, rfl⟩) (vals_each r h2) ok h
  | tuple ds =>
    simp only [seq2, Option.some.injEq] at hx
    subst hx
    obtain ⟨a, vs, rfl, h1, h2⟩ := tv
    cases rv
    obtain ⟨its, r, hT, _⟩ := I.tuple h1
    exact set_items I hc hu (.inl hT) (vals_each r h2) ok h
  | _ => simp [seq2] at hx
end
end
section
variable {X : Cx} {Z : WX} {b : Nat} {ra : Sl → K Cs.W} {e : Expr} {p p2 q pos : Pos}
theorem p_sset (hc : X.calm = true) (hu : X.A.units + 100 < cLine) (hg : Gl X "sorted") (hm : X.mg "sorted" = none) (hg2 : Gl X "set") (hm2 : X.mg "set" = none) (ha : PE X e (tR X Z b ra))
    (na : starEach [e] X.env = (false, eval e X.env) :: starEach [] X.env) :
    PE X (.Call (.Name "sorted" p) [.Call (.Name "set" p2) [e] [] q] [] pos) (tR X Z b fun σ => (ra σ).bnd fun x => (rd x).bnd fun x => K.opt ((ssetD x).map W.d)) := by
  refine ⟨fun pins s σ H Q I h => ?_⟩
  refine Call_ (ld_blt I hg hm boot_sorted ?_)
  refine PyProof.Rows.callWith_builtin1 (PyProof.Rows.args_cons ?_ rfl) rfl rfl
  refine Call_ (ld_blt I hg2 hm2 PyProof.Rows.boot_set ?_)
  refine PyProof.Rows.callWith_type1 (PyProof.Rows.args_cons (thn (ha.run pins s σ H _ I (tR.one h)) fun v s1 ⟨x, H1, I1, r1, q1⟩ => PyProof.Rows.args_nil ?_) na) na rfl
  obtain ⟨f, M, y, m, hb, ry, t1⟩ := q1
  obtain ⟨d, e1, t2⟩ := t1.rd
  obtain ⟨z, e2, t3⟩ := t2.opt1
  obtain ⟨d2, e3, rfl⟩ := Option.map_eq_some_iff.mp e2
  unfold ssetD at e3
  obtain ⟨xs, e4, e5⟩ := Option.bind_eq_some_iff.mp e3
  split at e5
  · rename_i hok
    rw [Bool.and_eq_true] at hok
    cases e5
    refine set_data I1 hc hu r1 (ry.dt m e1) e4 hok.1 fun h' tk hk hS => ?_
    refine PyProof.Rows.args_nil ?_
    have I2 : Inv X pins σ H1 { s1 with heap := h', toks := tk } := I1.kept hk
    obtain ⟨o, es, ep, t, ho, hex, hd, hn, hz, hf, hr, hl, hacc⟩ := hS
    have hkey : ∀ x ∈ dedup [] xs, isKey 8 x = true := fun x hx => by
      have hx' : x ∈ xs := (dedup_mem _ _ hx).resolve_left (by simp)
      rcases (setOk_def hok.1).1 with ⟨g, _⟩ | ⟨g, _⟩
      · exact leaf_key (g x hx')
      · exact (g x hx').2
    have hall := (sortOk_def hok.2).1
    rw [List.map_id] at hall
    have out : outD X b f M H1 Q (.list (sortD (dedup [] xs))) := fun f' H' v' x' m' r' => t3 f' H' x' m' v' r'
    refine sorted_core I2 hu hok.2 (fun R hR => collect_set (A := X.A.in1) (I2.ok.hd hc) ⟨o, ho, hex.1, hd⟩ hf hz hr hl fun s' acc hk' _ hg' ho' pm => ?_) fun p ws hp hd => out.lst m hd hp
    obtain ⟨es', h1, h2⟩ := hacc acc pm
    exact hR s' acc es' hk' hg' ho' h1 h2 (sort_perm h2 (fun x hx y hy => hall x hx y hy) hkey)
  · simp at e5
theorem p_lset (hc : X.calm = true) (hu : X.A.units + 100 < cLine) (hg : Gl X "len") (hm : X.mg "len" = none) (hg2 : Gl X "set") (hm2 : X.mg "set" = none) (ha : PE X e (tR X Z b ra))
    (na : starEach [e] X.env = (false, eval e X.env) :: starEach [] X.env) :
    PE X (.Call (.Name "len" p) [.Call (.Name "set" p2) [e] [] q] [] pos) (tR X Z b fun σ => (ra σ).bnd fun x => (rd x).bnd fun x => K.opt ((lsetD x).map W.d)) := by
  refine ⟨fun pins s σ H Q I h => ?_⟩
  refine Call_ (ld_blt I hg hm PySem.boot_len ?_)
  refine PyProof.Rows.callWith_builtin1 (PyProof.Rows.args_cons ?_ rfl) rfl rfl
  refine Call_ (ld_blt I hg2 hm2 PyProof.Rows.boot_set ?_)
  refine PyProof.Rows.callWith_type1 (PyProof.Rows.args_cons (thn (ha.run pins s σ H _ I (tR.one h)) fun v s1 ⟨x, H1, I1, r1, q1⟩ => PyProof.Rows.args_nil ?_) na) na rfl
  obtain ⟨f, M, y, m, hb, ry, t1⟩ := q1
  obtain ⟨d, e1, t2⟩ := t1.rd
  obtain ⟨z, e2, t3⟩ := t2.opt1
  obtain ⟨d2, e3, rfl⟩ := Option.map_eq_some_iff.mp e2
  unfold lsetD at e3
  obtain ⟨xs, e4, e5⟩ := Option.bind_eq_some_iff.mp e3
  split at e5
  · rename_i hok
    cases e5
    refine set_data I1 hc hu r1 (ry.dt m e1) e4 hok fun h' tk hk hS => ?_
    refine PyProof.Rows.args_nil ?_
    have I2 : Inv X pins σ H1 { s1 with heap := h', toks := tk } := I1.kept hk
    obtain ⟨o, es, ep, t, ho, hex, hd, hn, hz, hf, hr, hl, hacc⟩ := hS
    have out : outD X b f M H1 Q (.int (dedup [] xs).length) := fun f' H' v' x' m' r' => t3 f' H' x' m' v' r'
    have hz2 : es.size < 4096 := hz
    refine call_len_set ho hex hd hf (by omega) ⟨.int (dedup [] xs).length, H1, I2.tok _, ⟨_, by rw [hn]⟩, out.at m (.int _)⟩
  · simp at e5
end
end Cs
set_option Elab.async false
set_option linter.all false
set_option autoImplicit false
set_option maxRecDepth 100000
set_option maxHeartbeats 1000000
/-! list(d.values()). -/
namespace Cs
open PySem L2 PyProof.Rows
section
variable {X : Cx} {Z : WX} {b : Nat}
theorem vals_of {H : Hp} {C : Addr → Prop} : ∀ {es : List DictEntry} {kvs : List (PyData × PyData)}, EK X.K X.w H C (DR X.K X.w H C) es kvs → ∃ vs, Vals vs (es.map (·.val)) ∧ DRs X.K X.w H C vs (kvs.map (·.2))
  | _, _, .nil => ⟨[], .nil, .nil⟩
  | _, _, .cons _ _ a _ d r => let ⟨vs, h1, h2⟩ := vals_of r; ⟨_ :: vs, .cons a h1, .cons d h2⟩
theorem val_items {acc : Array Value} {es : List DictEntry} (h : ItemsOf (fun i v => ∃ hi : i < es.toArray.size, v = es.toArray[i].val) acc es.toArray.size) : acc.toList = es.map (·.val) := by
  refine List.ext_getElem? fun i => ?_
  by_cases hi : i < acc.size
  · have q := h.2 i acc[i] (Array.getElem?_eq_getElem hi)
    obtain ⟨hj, e⟩ := q
    rw [Array.getElem?_toList, Array.getElem?_eq_getElem hi, e, List.getElem?_map]
    simp at hj
    rw [List.getElem?_eq_getElem hj]
    simp
  · have hl : acc.size = es.length := by simpa using h.1
    rw [Array.getElem?_toList, List.getElem?_map, Array.getElem?_eq_none (by omega), List.getElem?_eq_none (by omega)]
    rfl
theorem p_lvs {e : Expr} {ra : Sl → K Cs.W} {p q apos pos : Pos} (hc : X.calm = true) (hg : Gl X "list") (hm : X.mg "list" = none) (he : PE X e (tR X Z b ra))
    (hbase : attributeBase e "values" X.env (eval e X.env) = eval e X.env) (hline : (apos.endLine == q.line) = true) :
    PE X (.Call (.Name "list" p) [.Call (.Attribute e "values" apos) [] [] q] [] pos) (tR X Z b fun σ => (ra σ).bnd fun x => (rd x).bnd fun x => K.opt ((lvsD x).map W.d)) := by
  refine ⟨fun pins s σ H Q I h => ?_⟩
  refine Call_ (ld_blt I hg hm boot_list ?_)
  refine PyProof.Rows.callWith_type1 (PyProof.Rows.args_cons ?_ rfl) rfl rfl
  refine wpAny_Call_method (T := "dict") (id := "dict.values") hbase rfl hline F.plainAttrs_dict F.slot_dict_values F.type_dict_values (thn (he.run pins s σ H _ I (tR.one h)) fun u s1 ⟨v, H1, I1, rv, f, M, y, m, hb, ry, t1⟩ => ?_)
  obtain ⟨d, e1, t2⟩ := t1.rd
  obtain ⟨z, e2, t3⟩ := t2.opt1
  obtain ⟨d2, e3, rfl⟩ := Option.map_eq_some_iff.mp e2
  have t4 := ry.dt m e1
  unfold lvsD at e3
  match d, e3, t4 with
  | .dict kvs, e3, t4 =>
    cases e3
    obtain ⟨a, es, rfl, hd, h2, k⟩ := t4.dict
    cases rv
    obtain ⟨ep, hr⟩ := hd.raw I1
    obtain ⟨o, ho, hxd, hdt⟩ := id hr
    have hz : es.toArray.size ≤ sizeLine := by rw [top_eq]; simpa [h2.length] using k.len
    have out : outD X b f M H1 Q (.list (kvs.map (·.2))) := fun f' H' v' x' m' r' => t3 f' H' x' m' v' r'
    refine ⟨hr.typeIs, fun a' e => by cases e; exact ⟨o, ho, hxd.2.1⟩, ?_⟩
    have I2 : Inv X pins σ H1 { s1 with heap := s1.heap.push { cls := .type "dict_values", data := .fields #[.ref a] } } := I1.kept (t' := s1.toks) fun b ob q => Heap.get?_push_of_some _ q
    have hr2 : (s1.heap.push { cls := .type "dict_values", data := .fields #[.ref a] }).DictRaw a es.toArray ep := hr.at fun o e => Heap.get?_push_of_some _ e
    have hv : (s1.heap.push { cls := .type "dict_values", data := .fields #[.ref a] }).IsValuesView s1.heap.objs.size a := ⟨_, Heap.get?_push_size _ rfl, rfl, rfl⟩
    obtain ⟨vs, r1, r2⟩ := vals_of (X := X) h2
    refine method_meetsIn F.slot_dict_values F.entry_dict_values rfl (PySem.evalArgs_none ⟨rfl, hr.typeIs, F.args_dict_values_1 _, _, meets_dict_values_raw a hd.1, ⟨_, _, hr⟩, PyProof.Rows.args_nil ?_⟩)
    refine PySem.W.kdl_call KdlSrc.rawValues (I2.ok.hd hc) ⟨hv, hr2⟩ hz fun h' tk acc' c' hk hl hacc => ?_
    rw [← val_items hacc] at r1
    have hn : H1 (s1.heap.push { cls := .type "dict_values", data := .fields #[.ref a] }).objs.size = none := I2.hok.fresh (Nat.le_refl _)
    refine ⟨.ref (s1.heap.push { cls := .type "dict_values", data := .fields #[.ref a] }).objs.size, upd H1 (s1.heap.push { cls := .type "dict_values", data := .fields #[.ref a] }).objs.size (.lst vs), I2.laid (t' := tk) hk (Nat.le_refl _) ⟨?_, acc'.toList, c', r1, by simpa using hl⟩, rfl, out.lst m r2 hn⟩
    rw [r1.length, Array.length_toList, hacc.1]
    exact hz
end
end Cs
set_option Elab.async false
set_option linter.all false
set_option autoImplicit false
set_option maxRecDepth 100000
set_option maxHeartbeats 1000000
/-! list(range(..)). -/
namespace Cs
open PySem L2 PyProof.Rows
section
variable {X : Cx} {Z : WX} {b : Nat}
theorem range_small {i j : Int} (h1 : -(2 ^ 62) ≤ i ∧ i < 2 ^ 62) (h2 : -(2 ^ 62) ≤ j ∧ j < 2 ^ 62) : Builtin.Range.small i j 1 = true := small_one h1.1 h1.2 h2.1 h2.2
theorem range_size {i j : Int} : Builtin.Range.rangeSize i j 1 = ((j - i).toNat : Nat) := by
  rw [rangeSize_one]
  split <;> omega
theorem ints_vals {H : Hp} {C : Addr → Prop} : ∀ (l : List Value) (i : Int), (∀ (k : Nat) v, l[k]? = some v → ∃ t, v = Value.int (i + k) t) → ∃ vs, Vals vs l ∧ DRs X.K X.w H C vs ((List.range l.length).map fun k : Nat => PyData.int (i + (k : Int)))
  | [], _, _ => ⟨[], .nil, .nil⟩
  | x :: l, i, h => by
    obtain ⟨t, e⟩ := h 0 x rfl
    obtain ⟨vs, r1, r2⟩ := ints_vals l (i + 1) fun k v e => by
      obtain ⟨t, e2⟩ := h (k + 1) v e
      exact ⟨t, by rw [e2]; congr 1; omega⟩
    refine ⟨.int i :: vs, .cons ⟨t, by rw [e]; simp⟩ r1, ?_⟩
    rw [List.length_cons, List.range_succ_eq_map, List.map_cons, List.map_map]
    refine .cons ?_ ?_
    · show DR X.K X.w H C (.int i) (.int (i + ((0 : Nat) : Int)))
      rw [show i + ((0 : Nat) : Int) = i by omega]
      exact .int i
    · have e3 : ((fun k : Nat => PyData.int (i + (k : Int))) ∘ Nat.succ) = fun k : Nat => PyData.int (i + 1 + (k : Int)) := by
        funext k
        show PyData.int (i + ((k + 1 : Nat) : Int)) = _
        congr 1
        omega
      rw [e3]
      exact r2
theorem int_items {acc : Array Value} {i : Int} {n : Nat} (h : ItemsOf (fun k v => ∃ t, v = Value.int (i + k * 1) t) acc n) {H : Hp} {C : Addr → Prop} : ∃ vs, Vals vs acc.toList ∧ DRs X.K X.w H C vs ((List.range n).map fun k : Nat => PyData.int (i + (k : Int))) := by
  have := ints_vals (X := X) (H := H) (C := C) acc.toList i fun k v e => by
    rw [Array.getElem?_toList] at e
    obtain ⟨t, e2⟩ := h.2 k v e
    exact ⟨t, by rw [e2]; congr 1; omega⟩
  rw [Array.length_toList, h.1] at this
  exact this
/-- list() of a range that stands in the heap -/
theorem lrng_end {pins : List (Addr × Obj)} {σ : L2.St} {H : Hp} {s : Shared} {f : Fm} {M : Mem} {Q : VK} {i j : Int} {t u v : Tok} (hc : X.calm = true) (I : Inv X pins σ H s) (m : MemOk X.K X.w f M H)
    (h1 : -(2 ^ 62) ≤ i ∧ i < 2 ^ 62) (h2 : -(2 ^ 62) ≤ j ∧ j < 2 ^ 62) (h3 : j - i ≤ 1000000) (o : outD X b f M H Q (.list (intsL i j))) (tk : Tok) :
    wpAny (model X.prog X.w) X.A (PySem.call (.type "list") [.ref s.heap.objs.size]) (EP X pins σ Q) X.xe { s with heap := s.heap.push { cls := .type "range", data := .fields #[.int i t, .int j u, .int 1 v] }, toks := tk } := by
  have I2 : Inv X pins σ H { s with heap := s.heap.push { cls := .type "range", data := .fields #[.int i t, .int j u, .int 1 v] }, toks := tk } := I.kept (t' := tk) fun b ob q => Heap.get?_push_of_some _ q
  refine call_list_range (n := (j - i).toNat) (I2.ok.hd hc) (IsRange.new s.heap i j 1 t u v) (range_small h1 h2) range_size (by omega) fun h' tk' acc' c' hk hl hacc => ?_
  obtain ⟨vs, r1, r2⟩ := int_items (X := X) (H := H) (C := isC f M) hacc
  have hn : H (s.heap.push { cls := .type "range", data := .fields #[.int i t, .int j u, .int 1 v] }).objs.size = none := I2.hok.fresh (Nat.le_refl _)
  refine ⟨.ref (s.heap.push { cls := .type "range", data := .fields #[.int i t, .int j u, .int 1 v] }).objs.size, upd H (s.heap.push { cls := .type "range", data := .fields #[.int i t, .int j u, .int 1 v] }).objs.size (.lst vs), I2.laid (t' := tk') hk (Nat.le_refl _) ⟨?_, acc'.toList, c', r1, by simpa using hl⟩, rfl, o.lst m r2 hn⟩
  rw [r1.length, Array.length_toList, hacc.1]
  have : sizeLine = 16777216 := rfl
  omega
theorem p_lrng {es : List Expr} {rs : Sl → K (List Cs.W)} {p p2 q pos : Pos} (hc : X.calm = true) (hg : Gl X "list") (hm : X.mg "list" = none) (hg2 : Gl X "range") (hm2 : X.mg "range" = none) (ha : PA X es (tRs X Z b rs)) (hl : (∃ a, es = [a]) ∨ ∃ a c, es = [a, c])
    (hs : ∀ a r, a ∈ es → starEach (a :: r) X.env = (false, eval a X.env) :: starEach r X.env) :
    PE X (.Call (.Name "list" p) [.Call (.Name "range" p2) es [] q] [] pos) (tR X Z b fun σ => (rs σ).bnd fun ws => (rds ws).bnd fun xs => K.opt ((lrngD xs).map W.d)) := by
  refine ⟨fun pins s σ H Q I h => ?_⟩
  refine Call_ (ld_blt I hg hm boot_list ?_)
  refine PyProof.Rows.callWith_type1 (PyProof.Rows.args_cons ?_ rfl) rfl rfl
  have fin : ∀ (us : List Value) (s1 : Shared), AP X pins σ (fun vs H1 => ∃ f M ys, MemOk X.K X.w f M H1 ∧ b ≤ M.length ∧ RWs X.K X.w f M H1 vs ys ∧ Then X.K X.w b f M H1 (((rds ys).bnd fun xs => K.opt ((lrngD xs).map W.d)) M) (fun z f' M' H' => ∀ v, RW X.K X.w f' M' H' v z → Q v H') (erW X Z σ)) us s1 →
      wpAny (model X.prog X.w) X.A (PySem.call (.type "range") us) (fun v s2 => wpAny (model X.prog X.w) X.A (PySem.call (.type "list") [v]) (EP X pins σ Q) X.xe s2) X.xe s1 := by
    intro us s1 ⟨vs, H1, I1, r1, f, M, ys, m, hb, ry, h⟩
    obtain ⟨xs, t, h2⟩ := Then.rds m ry h
    obtain ⟨z, e3, h3⟩ := h2.opt1
    obtain ⟨d, e4, rfl⟩ := Option.map_eq_some_iff.mp e3
    have out : outD X b f M H1 Q d := fun f' H' v' x' m' r' => h3 f' H' x' m' v' r'
    match xs, t, e4 with
    | [.int j], t, e4 =>
      obtain ⟨v, rfl, t2⟩ := t.one
      cases (show v = .int j from t2)
      obtain ⟨u, rfl, ru⟩ := vals1 r1
      obtain ⟨tk, rfl⟩ := ru
      simp only [lrngD] at e4
      split at e4
      · rename_i hj
        rw [Bool.and_eq_true] at hj
        cases e4
        exact call_range_1 (lrng_end hc I1 m (by omega) (small_def hj.1) (by have := of_decide_eq_true hj.2; omega) out _)
      · cases e4
    | [.int i, .int j], t, e4 =>
      cases vs with
      | nil => exact t.elim
      | cons v r =>
      obtain ⟨t1, t2⟩ := t
      obtain ⟨u, rfl, t3⟩ := (show DTs X.K X.w H1 (isC f M) r [.int j] from t2).one
      cases (show v = .int i from t1)
      cases (show u = .int j from t3)
      simp only [lrngD] at e4
      split at e4
      · rename_i hj
        rw [Bool.and_eq_true, Bool.and_eq_true] at hj
        cases e4
        cases r1 with
        | cons r rr =>
          cases rr with
          | cons r' rr =>
            cases rr
            obtain ⟨tk, rfl⟩ := r
            obtain ⟨tk', rfl⟩ := r'
            exact call_range_2 (lrng_end hc I1 m (small_def hj.1.1) (small_def hj.1.2) (of_decide_eq_true hj.2) out _)
      · cases e4
  obtain ⟨f, σ', M, st, h⟩ := h
  have main := ha.run q pins s σ H (fun vs H1 => ∃ f M ys, MemOk X.K X.w f M H1 ∧ b ≤ M.length ∧ RWs X.K X.w f M H1 vs ys ∧ Then X.K X.w b f M H1 (((rds ys).bnd fun xs => K.opt ((lrngD xs).map W.d)) M) (fun z f' M' H' => ∀ v, RW X.K X.w f' M' H' v z → Q v H') (erW X Z σ)) I
    ⟨f, σ', M, st, h.bnd.imp (fun y f1 M1 H1 x1 m1 h1 v rv => ⟨f1, M1, y, m1, Nat.le_trans st.base x1.len, rv, h1⟩) fun _ _ _ _ _ _ z => z⟩
  rcases hl with ⟨a, rfl⟩ | ⟨a, c, rfl⟩
  · exact Call_ (ld_blt I hg2 hm2 boot_range (PyProof.Rows.callWith_type1 (thn main fun us s1 h => thn (fin us s1 h) fun v s2 h2 => PyProof.Rows.args_nil h2) (hs a [] (by simp)) rfl))
  · exact Call_ (ld_blt I hg2 hm2 boot_range (PyProof.Rows.callWith_type1 (thn main fun us s1 h => thn (fin us s1 h) fun v s2 h2 => PyProof.Rows.args_nil h2) (hs a [c] (by simp)) (by rw [hs c [] (by simp)]; rfl)))
end
end Cs
set_option Elab.async false
set_option linter.all false
set_option autoImplicit false
set_option maxRecDepth 100000
set_option maxHeartbeats 1000000
/-! dict(pairs). -/
namespace Cs
open PySem L2 PyProof.Rows
section
variable {X : Cx} {b : Nat}
theorem outD.dic {f : Fm} {M : Mem} {H : Hp} {Q : VK} {es : List DictEntry} {ep : Nat} {kvs : List (PyData × PyData)} {p : Addr} (o : outD X b f M H Q (.dict kvs)) (m : MemOk X.K X.w f M H) (r : EK X.K X.w H (isC f M) (DR X.K X.w H (isC f M)) es kvs) (k : KeysOk kvs) (hs : (p == sysModules) = false) (hp : H p = none) : Q (.ref p) (upd H p (dO p es ep)) := by
  obtain ⟨m', x⟩ := m.lay (b := b) (o := dO p es ep) hp
  exact o f _ _ x m' (.dic ⟨hs, .inl ⟨ep, upd_same, m.notC hp⟩⟩ (DRk.stay x.stay r.drk) k)
/-- dictSet, as setItem in dict_set -/
theorem dict_set2 {pins : List (Addr × Obj)} {σ : L2.St} {H : Hp} {s0 s : Shared} {C : Addr → Prop} {A : Around} {E : Value → Shared → Prop} {a : Addr} {es : List DictEntry} {ep : Nat} {kvs : List (PyData × PyData)} {x y : PyData} {v vv : V} {u uv : Value}
    (I : Inv X pins σ H s0) (eh : s0.heap = s.heap) (hu : A.units + 20 < cLine) (hr : s.heap.DictRaw a es.toArray ep) (r : EK X.K X.w H C (DR X.K X.w H C) es kvs) (k : KeysOk kvs) (ask : askOk kvs x = true) (hx : DR X.K X.w H C v x) (ru : RelV v u) (rv : RelV vv uv) (ry : DR X.K X.w H C vv y)
    {Q : Unit → Shared → Prop} (h : ∀ t h' es' ep', h'.DictRaw a es'.toArray ep' → EK X.K X.w H C (DR X.K X.w H C) es' (dput kvs x y) → Heap.SameBut a s.heap h' → Q () { s with heap := h', toks := t }) : wpAny (model X.prog X.w) A (dictSet a u uv) Q E s := by
  have hr0 : s0.heap.DictRaw a es.toArray ep := by rw [eh]; exact hr
  have hlen : es.length ≤ sizeLine := by rw [r.length, top_eq]; exact k.len
  obtain ⟨hk, ⟨h1, h2⟩ | ⟨h1, h2⟩⟩ := askOk_def ask
  · have ev : v = kV (leaf x) := leaf_rel h1 hx
    subst ev
    have ll : ∀ (es : List DictEntry) (ks : List PyData), es.length = ks.length → (lps es ks).length = es.length := by
      intro es
      induction es with
      | nil => intro ks _; simp [lps]
      | cons e es ih => intro ks hl; cases ks with
        | nil => simp at hl
        | cons k ks => simp [lps, ih ks (by simpa using hl)]
    refine wpAny_dictSet_pairs (kV_is (P := X.prog) (w := X.w) ru) (r.leafDict k h2 hr) (fun h' dd hs => ?_) (by rw [ll _ _ (by rw [r.length]; simp)]; exact hlen)
    obtain ⟨o, es2, ep2, q1, q2, q3, q4, q5, _⟩ := dd
    refine h _ h' es2.toList ep2 ⟨o, q1, q2, by simpa using q3⟩ (LP.ek (P := X.prog) q5 (fun e he => q4 e (by simpa using he)) ((LP.of r h2).stored h1 rv ry)) hs
  · obtain ⟨ka, rfl⟩ := tup_ref h1 hx
    cases ru
    have ll : ∀ (es : List DictEntry) (ks : List PyData), es.length = ks.length → (tps es ks).length = es.length := by
      intro es
      induction es with
      | nil => intro ks _; simp [tps]
      | cons e es ih => intro ks hl; cases ks with
        | nil => simp at hl
        | cons k ks => simp [tps, ih ks (by simpa using hl)]
    refine wpAny_dictSet_heap (knd := nestedKind X.prog X.w) (by show A.units + 8 < cLine; omega) (by have := tup_is I hk hx rfl; rw [eh] at this; exact this) (by have := r.tupDict I k h2 hr0; rw [eh] at this; exact this) (fun h' dd hs => ?_) (by rw [ll _ _ (by rw [r.length]; simp)]; exact hlen)
    obtain ⟨o, es2, ep2, q1, q2, q3, q4, _, _⟩ := dd
    have q := ((TP.of I r fun p hp => ⟨h2 p hp, k.key p hp⟩).stored hk hx rv ry).ek (P := X.prog)
    refine h _ h' es2.toList ep2 ⟨o, q1, q2, by simpa using q3⟩ ?_ hs
    rw [q4]
    exact q
/-! ### pairs in the heap -/
structure PrAt (X : Cx) (H : Hp) (C : Addr → Prop) (h : Heap) (T : Addr) (k v : Value) (p : PyData × PyData) : Prop where
  at_ : PairAt h T k v
  key : ∃ z, RelV z k ∧ DR X.K X.w H C z p.1
  val : ∃ z, RelV z v ∧ DR X.K X.w H C z p.2
inductive LR (X : Cx) (H : Hp) (C : Addr → Prop) (h : Heap) : List (Addr × Value × Value) → List (PyData × PyData) → Prop
  | nil : LR X H C h [] []
  | cons {l : Addr × Value × Value} {p : PyData × PyData} {ls : List (Addr × Value × Value)} {ps : List (PyData × PyData)} : PrAt X H C h l.1 l.2.1 l.2.2 p → LR X H C h ls ps → LR X H C h (l :: ls) (p :: ps)
theorem LR.len {H : Hp} {C : Addr → Prop} {h : Heap} : ∀ {ls : List (Addr × Value × Value)} {ps : List (PyData × PyData)}, LR X H C h ls ps → ls.length = ps.length
  | _, _, .nil => rfl
  | _, _, .cons _ r => by rw [List.length_cons, List.length_cons, r.len]
theorem LR.at_ {H : Hp} {C : Addr → Prop} {h : Heap} : ∀ {ls : List (Addr × Value × Value)} {ps : List (PyData × PyData)}, LR X H C h ls ps → ∀ (j : Nat) l, ls[j]? = some l → ∃ p, ps[j]? = some p ∧ PrAt X H C h l.1 l.2.1 l.2.2 p
  | _, _, .nil, j, l, e => by simp at e
  | _, _, .cons q r, 0, l, e => by simp at e; subst e; exact ⟨_, rfl, q⟩
  | _, _, .cons q r, j + 1, l, e => r.at_ j l e
theorem pairs_of {pins : List (Addr × Obj)} {σ : L2.St} {H : Hp} {s : Shared} {C : Addr → Prop} (I : Inv X pins σ H s) : ∀ {vs : List V} {us : List Value} {ds : List PyData} {ps : List (PyData × PyData)}, Vals vs us → DRs X.K X.w H C vs ds → pairs2 ds = some ps → ∃ ls, us = ls.map (fun l => Value.ref l.1) ∧ LR X H C s.heap ls ps
  | _, _, _, _, .nil, .nil, e => by cases e; exact ⟨[], rfl, .nil⟩
  | _, _, d :: ds, ps, .cons ru tu, .cons rd td, e => by
    match d, rd, e with
    | .tuple [x, y], rd, e =>
      obtain ⟨qs, e1, rfl⟩ := Option.map_eq_some_iff.mp (show (pairs2 ds).map ((x, y) :: ·) = some ps from e)
      obtain ⟨ls, e2, r2⟩ := pairs_of I tu td e1
      cases rd with
      | tup h1 h2 =>
      cases ru
      cases h2 with
      | cons d1 h3 =>
      cases h3 with
      | cons d2 h4 =>
      cases h4
      obtain ⟨its, rv, ht, _⟩ := I.tuple (h1.elim (fun z => .inl z.1) .inr)
      cases rv with
      | cons a1 t1 =>
      cases t1 with
      | cons a2 t2 =>
      cases t2
      exact ⟨(_, _, _) :: ls, by rw [List.map_cons, e2], .cons ⟨.inl ht, ⟨_, a1, d1⟩, ⟨_, a2, d2⟩⟩ r2⟩
theorem dmake_take : ∀ (ps acc kvs : List (PyData × PyData)), dmake acc ps = some kvs → ∀ i, ∃ kv, dmake acc (ps.take i) = some kv ∧ ∀ p, ps[i]? = some p → putOk kv p.1 = true ∧ dmake acc (ps.take (i + 1)) = some (dput kv p.1 p.2)
  | [], acc, kvs, e, i => ⟨acc, by simp [dmake], fun p hp => by simp at hp⟩
  | (k, v) :: ps, acc, kvs, e, 0 => by
    refine ⟨acc, rfl, fun p hp => ?_⟩
    simp at hp
    subst hp
    unfold dmake at e
    split at e
    · rename_i h
      refine ⟨h, ?_⟩
      rw [List.take_succ_cons, List.take_zero]
      unfold dmake
      rw [if_pos h]
      rfl
    · cases e
  | (k, v) :: ps, acc, kvs, e, i + 1 => by
    unfold dmake at e
    split at e
    · rename_i h
      obtain ⟨kv, e1, e2⟩ := dmake_take ps (dput acc k v) kvs e i
      refine ⟨kv, ?_, fun p hp => ?_⟩
      · rw [List.take_succ_cons]
        unfold dmake
        rw [if_pos h]
        exact e1
      · obtain ⟨a, c⟩ := e2 p hp
        refine ⟨a, ?_⟩
        rw [List.take_succ_cons]
        unfold dmake
        rw [if_pos h]
        exact c
    · cases e
theorem keys_nil2 : KeysOk ([] : List (PyData × PyData)) := ⟨fun p hp => (List.not_mem_nil hp).elim, List.nodup_nil, Nat.zero_le _⟩
theorem b_dict (hc : X.calm = true) (hu : X.A.units + 100 < cLine) : CallR X (.type "dict") (bOp X b (bltD .dict)) := by
  intro pins s σ H vs us Q I r ⟨f, M, xs, d, m, hb, t, e, o⟩
  match xs, t, e with
  | [.list ds], t, e =>
    obtain ⟨v, rfl, tv⟩ := t.one
    obtain ⟨a, vs, rfl, h1, h2⟩ := tv
    obtain ⟨u, rfl, ru⟩ := vals1 r
    cases ru
    obtain ⟨its, n, rv, hl, e0⟩ := rd_lst I h1
    obtain ⟨ps, e1, e2⟩ := Option.bind_eq_some_iff.mp (show (pairs2 ds).bind (fun ps => (dmake [] ps).map PyData.dict) = some d from e)
    obtain ⟨kvs, e3, rfl⟩ := Option.map_eq_some_iff.mp e2
    obtain ⟨ls, q1, q2⟩ := pairs_of I rv h2 e1
    have hll := q2.len
    have P := PairArg.list (prog := X.prog) (w := X.w) a its.toArray (fun j => (ls[j]?.map (·.1)).getD 0) (ls.map (·.2))
    have ok : PlainSeq "list" s.heap a its.toArray ∧ PairItems s.heap its.toArray (fun j => (ls[j]?.map (·.1)).getD 0) (ls.map (·.2)) := by
      refine ⟨⟨_, n, e0, rfl, rfl, rfl⟩, by rw [q1]; simp, fun j k v hj => ?_⟩
      rw [List.getElem?_map] at hj
      obtain ⟨l, hl2, hl3⟩ := Option.map_eq_some_iff.mp hj
      obtain ⟨p, _, hp⟩ := q2.at_ j l hl2
      have hk : l.2.1 = k := by rw [hl3]
      have hv : l.2.2 = v := by rw [hl3]
      refine ⟨by rw [q1, List.getElem?_toArray, List.getElem?_map, hl2]; simp [hl2], ?_⟩
      show PairAt s.heap ((ls[j]?.map (·.1)).getD 0) k v
      rw [hl2, ← hk, ← hv]
      exact hp.at_
    refine call_dict_arg P ok fun s₁ hs₁ hdf ok₁ => ?_
    subst hs₁
    refine updateFrom_arg (A := X.A.in1) (d := s.heap.objs.size) (Tab := fun i h => (∃ kv es ep, dmake [] (ps.take i) = some kv ∧ KeysOk kv ∧ h.DictRaw s.heap.objs.size (es : List DictEntry).toArray ep ∧ EK X.K X.w H (isC f M) (DR X.K X.w H (isC f M)) es kv) ∧ ∀ b o, s.heap.get? b = some o → h.get? b = some o) P .none (I.ok.hd hc) ok₁ hdf ?tab ?alive ?keepT ?step ?fin
    case tab => exact ⟨⟨[], [], 0, rfl, keys_nil2, ⟨_, Heap.get?_push_size _ rfl, ⟨rfl, rfl, rfl⟩, rfl⟩, .nil⟩, fun b o e => Heap.get?_push_of_some _ e⟩
    case alive => exact fun i h tb => let ⟨⟨_, _, _, _, _, ⟨o, ho, _⟩, _⟩, _⟩ := tb; Heap.lt_size ho
    case keepT =>
      intro i h h' wr' hd hw ⟨⟨kv, es, ep, g1, g2, g3, g4⟩, g5⟩ hk
      refine ⟨⟨kv, es, ep, g1, g2, g3.at fun o e => hk _ o hd e, g4⟩, fun b o e => hk b o (fun hm => ?_) (g5 b o e)⟩
      rcases hw b hm with q | q
      · cases q
      · rw [show (s.heap.push { cls := .type "dict", data := .dict #[] }).get? b = some o from Heap.get?_push_of_some _ e] at q; cases q
    case step =>
      intro i key v s' Q' E' hi hrel ⟨⟨kv, es, ep, g1, g2, g3, g4⟩, g5⟩ _ hQ
      have hrel : (ls.map (·.2))[i]? = some (key, v) := hrel
      rw [List.getElem?_map] at hrel
      obtain ⟨l, hl2, hl3⟩ := Option.map_eq_some_iff.mp hrel
      obtain ⟨p, hp1, hp⟩ := q2.at_ i l hl2
      have hk : l.2.1 = key := by rw [hl3]
      have hv : l.2.2 = v := by rw [hl3]
      obtain ⟨kv2, g6, g7⟩ := dmake_take ps [] kvs e3 i
      obtain rfl : kv2 = kv := by rw [g1] at g6; exact (Option.some.inj g6).symm
      obtain ⟨g8, g9⟩ := g7 p hp1
      have g10 : askOk kv2 p.1 = true := by
        unfold putOk at g8
        rw [Bool.and_eq_true] at g8
        exact g8.1
      obtain ⟨zk, z1, z2⟩ := hp.key
      obtain ⟨zv, z3, z4⟩ := hp.val
      rw [hk] at z1
      rw [hv] at z3
      have I2 : Inv X pins σ H { s with heap := s'.heap, toks := s'.toks } := I.kept (t' := s'.toks) g5
      refine dict_set2 (s := s') I2 rfl (A := X.A.in1.in1) (by show X.A.units + 1 + 1 + 20 < cLine; omega) g3 g4 g2 g10 z2 z1 z3 z4 fun t h' es' ep' q3 q4 q5 => ?_
      exact hQ h' t ⟨⟨_, es', ep', g9, dput_keys g2 g8, q3, q4⟩, fun b o e => q5.extBut b o (Nat.ne_of_lt (Heap.lt_size e)) (g5 b o e)⟩ q5
    case fin =>
      intro h' tk ⟨⟨kv, es, ep, g1, g2, g3, g4⟩, g5⟩ _
      rw [List.take_of_length_le (by rw [List.length_map]; omega)] at g1
      obtain rfl : kv = kvs := by rw [g1] at e3; exact Option.some.inj e3
      have hS : (s.heap.objs.size == sysModules) = false := beq_eq_false_iff_ne.mpr (Ne.symm (Nat.ne_of_lt I.big))
      have hn : H s.heap.objs.size = none := I.hok.fresh (Nat.le_refl _)
      exact ⟨rfl, .ref s.heap.objs.size, upd H s.heap.objs.size (dO s.heap.objs.size es ep), I.laid (a := s.heap.objs.size) (t' := tk) g5 (Nat.le_refl _) (dO_new g3), rfl, o.dic m g4 g2 hS hn⟩
theorem p_dict {Z : WX} {a : Expr} {es : List Expr} {rs : Sl → K (List Cs.W)} {p pos : Pos} (hc : X.calm = true) (hu : X.A.units + 100 < cLine) (hg : Gl X (bltName .dict)) (hm : X.mg (bltName .dict) = none) (ha : PA X (a :: es) (tRs X Z b rs))
    (he : starEach (a :: es) X.env = (false, eval a X.env) :: starEach es X.env) (hpl : (backTo pos (starEach es X.env)).any (·.1) = false) :
    PE X (.Call (.Name (bltName .dict) p) (a :: es) [] pos) (tR X Z b fun σ => (rs σ).bnd fun ws => (rds ws).bnd fun xs => K.opt ((bltD .dict xs).map W.d)) :=
  pe_to (pe_callTy (b_dict (b := b) hc hu) hg hm boot_dict ha (by decide) (by decide) he hpl) fun σ H Q h => bOp_of (tRs.then_ h)
end
end Cs
set_option Elab.async false
set_option linter.all false
set_option autoImplicit false
set_option maxRecDepth 100000
set_option maxHeartbeats 1000000
/-! max of two ints. -/
namespace Cs
open PySem L2 PyProof.Rows
section
variable {X : Cx} {b : Nat}
theorem b_max (hc : X.calm = true) : CallR X (.builtin "max") (bOp X b (bltD .max)) := by
  intro pins s σ H us uv Q I r ⟨f, M, xs, d, m, hb, tx, e, o⟩
  match xs, e with
  | [.int i, .int j], e =>
    simp only [bltD, Option.some.injEq] at e
    subst e
    obtain ⟨v1, v2, rfl, t1, t2⟩ : ∃ v1 v2, us = [v1, v2] ∧ DT X.K X.w H (isC f M) v1 (.int i) ∧ DT X.K X.w H (isC f M) v2 (.int j) := by
      match us, tx with
      | [v1, v2], ⟨t1, t2, _⟩ => exact ⟨v1, v2, rfl, t1, t2⟩
    cases (show v1 = .int i from t1)
    cases (show v2 = .int j from t2)
    exact call_max2 hc pins s σ H _ uv Q I r ⟨i, j, rfl, o.at m (.int _)⟩
theorem p_max {Z : WX} {a : Expr} {es : List Expr} {rs : Sl → K (List Cs.W)} {p pos : Pos} (hc : X.calm = true) (hg : Gl X (bltName .max)) (hm : X.mg (bltName .max) = none) (ha : PA X (a :: es) (tRs X Z b rs))
    (he : starEach (a :: es) X.env = (false, eval a X.env) :: starEach es X.env) (hpl : (backTo pos (starEach es X.env)).any (·.1) = false) :
    PE X (.Call (.Name (bltName .max) p) (a :: es) [] pos) (tR X Z b fun σ => (rs σ).bnd fun ws => (rds ws).bnd fun xs => K.opt ((bltD .max xs).map W.d)) :=
  pe_to (pe_callB (b_max (b := b) hc) hg hm (by decide +kernel) ha (by decide) (by decide) he hpl) fun σ H Q h => bOp_of (tRs.then_ h)
end
end Cs
set_option Elab.async false
set_option linter.all false
set_option autoImplicit false
set_option maxRecDepth 100000
set_option maxHeartbeats 1000000
/-! The checker: an IR tree is what a tree of the program says. -/
namespace Cs
open PySem L2 PyProof.Rows
/-- what is known of the module's classes: errors; errors with a field; who is of a class, who is not; fields that may be read -/
structure ClsK where
  ex : List Str
  ef : List (Str × Str)
  ia : List (Str × (List Str × List Str))
  fa : List (Str × (Str × Bool))
  hd : List Str
/-- what is known of names -/
structure CEnv where
  N : List Str
  fs : List Str
  gs : List Str
  ts : List Str
  es : List Str
  rs : Scope
  sc : Scope
  ws : List (Str × (List (Str × Str) × Str)) := []
  w : Bool := false
  cd : ClsK := ⟨[], [], [], [], []⟩
/-- no parameters -/
def noPar : Arguments → Bool
  | ⟨[], [], none, [], [], none, []⟩ => true
  | _ => false
theorem noPar_def {a : Arguments} (h : noPar a = true) : a = ⟨[], [], none, [], [], none, []⟩ := by
  unfold noPar at h
  split at h
  · rfl
  · cases h
def glB (sc : Scope) (x : Str) : Bool := match sc.names.lookup x with
  | some .globalImplicit => true
  | _ => false
def nmB (x : Str) : Bool := !(x == ("__debug__" : Str)) && !(x == ("__classdict__" : Str))
def tgB (rs : Scope) (x : Str) : Bool := match rs.names.lookup x with
  | some .local => true
  | some .cell => true
  | _ => false
def conB : Const → PyData → Bool
  | .none, .none => true
  | .bool a, .bool b => a == b
  | .int a, .int b => decide (a = b)
  | .str a, .str b => a == b
  | _, _ => false
def opB : O2 → Operator → Bool
  | .add, .Add => true | .sub, .Sub => true | .mul, .Mult => true | .fdiv, .FloorDiv => true | .mod, .Mod => true | .pow, .Pow => true
  | _, _ => false
def cmB : Cm → CmpOp → Bool
  | .eq, .Eq => true | .ne, .NotEq => true | .lt, .Lt => true | .le, .LtE => true | .gt, .Gt => true | .ge, .GtE => true | .inn, .In => true | .nin, .NotIn => true  | .isN, .Is => true | .notN, .IsNot => true
  | _, _ => false
def plainIxB : Expr → Bool
  | .Slice _ _ _ _ => false
  | _ => true
def baseB : Expr → Bool
  | .Call (.Name x _) [] [] _ => !(x == ("super" : Str))
  | _ => true
def setB : Expr → Bool
  | .Set _ _ _ => false
  | _ => true
def starB : Expr → Bool
  | .Starred _ _ => false
  | _ => true
def testB : Expr → Bool
  | .UnaryOp .Not _ _ => false
  | .BoolOp _ _ _ => false
  | .IfExp _ _ _ _ => false
  | .Compare _ _ _ _ => false
  | _ => true
theorem glB_def {X : Cx} {x : Str} (h : glB X.env.scope x = true) : Gl X x := by
  unfold glB at h
  split at h
  · assumption
  · cases h
theorem conB_def {c : Const} {d : PyData} (h : conB c d = true) : conOf c = some d := by
  cases c <;> cases d <;> simp_all [conB, conOf]
theorem opB_def {o : O2} {p : Operator} (h : opB o p = true) : p = o.op := by cases o <;> cases p <;> simp_all [opB, O2.op]
theorem cmB_def {o : Cm} {p : CmpOp} (h : cmB o p = true) : p = o.op := by cases o <;> cases p <;> simp_all [cmB, Cm.op]
theorem plainIxB_def {e : Expr} (h : plainIxB e = true) : PlainIx e := by
  intro o i
  cases e <;> first | rfl | simp [plainIxB] at h
theorem baseB_def {e : Expr} {f : Str} {env : Env} (h : baseB e = true) : attributeBase e f env (eval e env) = eval e env := by
  unfold attributeBase
  split
  · rename_i x p pos
    simp only [baseB, Bool.not_eq_true'] at h
    have : (x != ("super" : Str)) = true := by simp [bne, h]
    simp only [this, Bool.true_or, if_true]
  · rfl
theorem setB_def {e : Expr} {env : Env} (h : setB e = true) (x : Value) : foldedSetIterable e env x = pure x := by
  cases e <;> first | rfl | simp [setB] at h
theorem starB_def {e : Expr} {env : Env} {r : List Expr} (h : starB e = true) : starEach (e :: r) env = (false, eval e env) :: starEach r env := by
  cases e <;> first | rfl | simp [starB] at h
theorem testB_def {e : Expr} {env : Env} (h : testB e = true) (w : Sem Value) : isTrue e env w = (do let v ← w; standAt e.pos; holding [v] (truthy v)) := by
  cases e <;> first | rfl | (rename_i op _ _; cases op <;> first | rfl | simp [testB] at h) | simp [testB] at h
theorem tyName_boot (t : Ty) : bootBuiltins (Str.ofString (tyName t)) = some (.type (tyName t)) ∧ (Str.ofString (tyName t)) ≠ "__name__" ∧ (Str.ofString (tyName t) == ("__debug__" : Str)) = false := by
  cases t <;> decide +kernel
theorem plain_any : ∀ {es : List Expr} {pos : Pos} {env : Env}, es.all starB = true → (backTo pos (starEach es env)).any (·.1) = false
  | [], _, _, _ => rfl
  | e :: es, pos, env, h => by
    rw [List.all_cons, Bool.and_eq_true] at h
    rw [starB_def h.1]
    show (false || (backTo pos (starEach es env)).any (·.1)) = false
    rw [plain_any h.2]; rfl
def ownOf (N : List Str) (own : List Nat) : List (Str × Nat) := own.map fun i => (N[i]?.getD default, i)
def CEnv.blk (c : CEnv) (scope : Scope) : CEnv := { c with rs := scope, sc := relS scope c.sc, w := false }
def CEnv.lam (c : CEnv) (scope : Scope) : CEnv := { c with rs := { scope with names := [] }, sc := scope, w := false }
def bltHere2 : Bl → Bool
  | _ => true
def xArgs : XO → Expr → Option (List Expr)
  | .mkx _, .Call (.Name _ _) [x] [] _ => some [x]
  | .mkf _ _, .Call (.Name _ _) [x] [] _ => some [x]
  | .isc _ _ _, .Call (.Name _ _) [x, .Name _ _] [] _ => some [x]
  | .att _ _ _, .Attribute x _ _ => some [x]
  | .strx _, .Call (.Name _ _) [x] [] _ => some [x]
  | _, _ => none
def chkX (c : CEnv) : XO → Expr → Bool
  | .mkx cls, .Call (.Name g _) _ _ _ => (g == cls) && (glB c.sc g && (nmB g && c.cd.ex.contains g))
  | .mkf cls fld, .Call (.Name g _) _ _ _ => (g == cls) && (glB c.sc g && (nmB g && c.cd.ef.contains (g, fld)))
  | .isc cls yes no, .Call (.Name g _) [_, .Name n _] _ _ => (g == ("isinstance" : Str)) && (glB c.sc g && ((n == cls) && (glB c.sc n && (nmB n && c.cd.ia.contains (cls, (yes, no))))))
  | .att cls fld err, .Attribute x n _ => (n == fld) && (baseB x && c.cd.fa.contains (cls, (fld, err)))
  | .strx cs, .Call (.Name g _) _ _ _ => (g == ("str" : Str)) && (glB c.sc g && cs.all (c.cd.ex.contains ·))
  | _, _ => false
mutual
def chkE (c : CEnv) : E → Expr → Bool
  | .var i, .Name x _ => (c.N[i]? == some x) && (visB c.sc x && nmB x)
  | .glob x, .Name y _ => (x == y) && (glB c.sc y && (c.gs.contains y && nmB y))
  | .con d, .Constant k _ _ => conB k d
  | .op o a b, .BinOp x p y _ => opB o p && (chkE c a x && chkE c b y)
  | .cat a b, .BinOp x p y _ => opB .add p && (chkE c a x && chkE c b y)
  | .neg a, .UnaryOp .USub x _ => chkE c a x
  | .cmp o a b, .Compare x [p] [y] _ => cmB o p && (!behindInMarks p y && (chkE c a x && chkE c b y))
  | .kin neg a b, .Compare x [p] [y] _ => cmB (if neg then .nin else .inn) p && (!behindInMarks p y && (chkE c a x && chkE c b y))
  | .isN a, .Compare x [.Is] [.Constant .none _ _] _ => chkE c a x
  | .notN a, .Compare x [.IsNot] [.Constant .none _ _] _ => chkE c a x
  | .chain o o' a b d, .Compare x [p, q] [y, z] _ => cmB o p && (cmB o' q && (!lastMarks [p, q] [y, z] && (chkE c a x && (chkE c b y && chkE c d z))))
  | .and_ a r, .BoolOp .And [x, y] _ => chkE c a x && chkE c r y
  | .and_ a r, .BoolOp .And (x :: y :: z :: w) pos => chkE c a x && chkE c r (.BoolOp .And (y :: z :: w) pos)
  | .or_ a r, .BoolOp .Or [x, y] _ => chkE c a x && chkE c r y
  | .or_ a r, .BoolOp .Or (x :: y :: z :: w) pos => chkE c a x && chkE c r (.BoolOp .Or (y :: z :: w) pos)
  | .not_ a, .UnaryOp .Not x _ => chkE c a x
  | .ite d a b, .IfExp x y z _ => chkE c d x && (chkE c a y && chkE c b z)
  | .tup es, .Tuple xs _ _ => chkEs c es xs
  | .lst _ es, .List xs _ => chkEs c es xs
  | .dic _ .nil, .Dict [] [] _ => true
  | .dic _ kvs, .Dict (k :: keys) values _ => decide (keys.length + 1 ≤ 15) && chkK c kvs (k :: keys) values
  | .sub a i, .Subscript x y _ => plainIxB y && (chkE c a x && chkE c i y)
  | .slc a lo hi, .Subscript x (.Slice l h none _) _ => chkE c a x && (chkO c lo l && chkO c hi h)
  | .rev a, .Subscript x (.Slice none none (some (.UnaryOp .USub (.Constant (.int 1) _ _) _)) _) _ => chkE c a x
  | .call f es, .Call (.Name g _) xs [] _ => (f == g) && (glB c.sc g && (c.fs.contains g && (nmB g && chkEs c es xs)))
  | .word f tb fine e, .Call (.Name g _) [.Lambda params body scope _] [] _ => (f == g) && (c.w && (glB c.sc g && (nmB g && (decide (c.ws.lookup g = some (tb, fine)) && (LamX.lamSB c.sc scope && (noPar params && chkE (c.lam scope) e body))))))
  | .isi t a, .Call (.Name g _) [x, .Name n _] [] _ => (g == ("isinstance" : Str)) && (glB c.sc g && ((n == Str.ofString (tyName t)) && (glB c.sc n && chkE c a x)))
  | .blt f (.cons e es), .Call (.Name g _) (x :: xs) [] _ => (g == bltName f) && (bltHere2 f && (glB c.sc g && (chkE c e x && chkEs c es xs)))
  | .sset a, .Call (.Name g _) [.Call (.Name g2 _) [x] [] _] [] _ => (g == ("sorted" : Str)) && (glB c.sc g && ((g2 == ("set" : Str)) && (glB c.sc g2 && chkE c a x)))
  | .lset a, .Call (.Name g _) [.Call (.Name g2 _) [x] [] _] [] _ => (g == ("len" : Str)) && (glB c.sc g && ((g2 == ("set" : Str)) && (glB c.sc g2 && chkE c a x)))
  | .lvs a, .Call (.Name g _) [.Call (.Attribute x n apos) [] [] q] [] _ => (g == ("list" : Str)) && (glB c.sc g && ((n == ("values" : Str)) && (baseB x && ((apos.endLine == q.line) && chkE c a x))))
  | .lrng es, .Call (.Name g _) [.Call (.Name g2 _) xs [] _] [] _ => (g == ("list" : Str)) && (glB c.sc g && ((g2 == ("range" : Str)) && (glB c.sc g2 && (decide (xs.length = 1 ∨ xs.length = 2) && chkEs c es xs))))
  | .meth m o es, .Call (.Attribute x n apos) xs [] pos => (n == mtName m) && (mtHere m && (baseB x && ((apos.endLine == pos.line) && (decide (xs.length < 30) && (chkE c o x && chkEs c es xs)))))
  | .gix x e, .Call (.Attribute (.Name y _) n apos) [z] [] pos => (x == y) && (glB c.sc y && (c.ts.contains y && (nmB y && ((n == ("index" : Str)) && ((apos.endLine == pos.line) && chkE c e z)))))
  | .comp _ own elt p it d, .ListComp x [⟨tg, iter, ifs, is⟩] scope _ => decide (is = 0) && (setB iter && (blkC c.N c.sc scope (ownOf c.N own) && ((asgdP p).all (fun i => own.contains i) && (chkP c.N (tgB scope) p tg &&
      (chkI c it tg iter && (chkT (c.blk scope) d ifs && chkE (c.blk scope) elt x))))))
  | .comp2 own elt p it p2 it2, .ListComp x [⟨tg, iter, [], is⟩, ⟨tg2, iter2, [], is2⟩] scope _ => decide (is = 0) && (decide (is2 = 0) && (setB iter && (setB iter2 && (blkC c.N c.sc scope (ownOf c.N own) && ((asgdP p).all (fun i => own.contains i) &&
      ((asgdP p2).all (fun i => own.contains i) && (chkP c.N (tgB scope) p tg && (chkP c.N (tgB scope) p2 tg2 && (chkI c it tg iter && (chkI (c.blk scope) it2 tg2 iter2 && chkE (c.blk scope) elt x))))))))))
  | .ext op es, e => chkX c op e && (match xArgs op e with
    | some xs => chkEs c es xs
    | none => false)
  | _, _ => false
def chkEs (c : CEnv) : Es → List Expr → Bool
  | .nil, [] => true
  | .cons e r, x :: xs => chkE c e x && chkEs c r xs
  | _, _ => false
def chkK (c : CEnv) : KVs → List (Option Expr) → List Expr → Bool
  | .nil, [], [] => true
  | .cons k v r, some x :: xs, y :: ys => chkE c k x && (chkE c v y && chkK c r xs ys)
  | _, _, _ => false
def chkO (c : CEnv) : Oe → Option Expr → Bool
  | .no, none => true
  | .yes e, some x => chkE c e x
  | _, _ => false
def chkT (c : CEnv) : Oe → List Expr → Bool
  | .no, [] => true
  | .yes e, [x] => chkE c e x
  | _, _ => false
def chkI (c : CEnv) : I → Expr → Expr → Bool
  | .of e, _, x => chkE c e x
  | .rng es, _, .Call (.Name g _) xs [] _ => (g == ("range" : Str)) && (glB c.sc g && (decide (xs.length = 1 ∨ xs.length = 2) && chkEs c es xs))
  | .zip es, .Tuple _ _ _, .Call (.Name g _) [x, y] [] _ => (g == ("zip" : Str)) && (glB c.sc g && chkEs c es [x, y])
  | .enu es, .Tuple _ _ _, .Call (.Name g _) [x] [] _ => (g == ("enumerate" : Str)) && (glB c.sc g && chkEs c es [x])
  | .vals e, _, .Call (.Attribute x n apos) [] [] pos => (n == ("values" : Str)) && (baseB x && ((apos.endLine == pos.line) && chkE c e x))
  | _, _, _ => false
end
end Cs
set_option Elab.async false
set_option linter.all false
set_option autoImplicit false
set_option maxRecDepth 100000
set_option maxHeartbeats 2000000
/-! An own class of errors with an __init__ that calls its parent's, then sets one field. -/
namespace Cs
open PySem L2 PyProof.Rows
section
variable {X : Cx} {e : Expr} {es : List Expr} {ta : TA} {p1 p2 pos : Pos}
/-- D.__init__(self, ..), D an own class whose __init__ is ValueError's -/
theorem pe_pinit {x : Str} {D : Addr} {mc : Value} {pl : Sem Bool} (hg : Gl X x) (hm : X.mg x = some (.ref D)) (hd : (x == ("__debug__" : Str)) = false)
    (hga : PySem.W.specialIn X.K (.ref D) "__getattribute__" = some (some (.builtin "type.__getattribute__"))) (hr : PySem.W.readsIn X.K D mc = true)
    (hf : PySem.W.findCls X.K (.ref D) mc "__init__" = some (.val (.builtin "ValueError.__init__"))) (ha : PA X (e :: es) ta)
    (hc : eval (.Call (.Attribute (.Name x p1) "__init__" p2) (e :: es) [] pos) X.env = (do
      let ov ← eval (.Name x p1) X.env
      standAt p2.atName
      let (f, first) ← holding [ov] (getMethod ov "__init__" pl)
      callWith pos f first (backTo pos (starEach (e :: es) X.env)) (backToKw pos (keywordEach [] X.env))))
    (he : starEach (e :: es) X.env = (false, eval e X.env) :: starEach es X.env) (hpl : (backTo pos (starEach es X.env)).any (·.1) = false) :
    PE X (.Call (.Attribute (.Name x p1) "__init__" p2) (e :: es) [] pos) (tVeI X.K ta) := by
  refine ⟨fun pins s σ H Q I h => ?_⟩
  refine PySem.W.methodCall_KW (ld_glob I hg hm ?_ hd) hc
  refine PySem.W.method_cls I.kIn hga (PySem.W.cls_value I.kIn hr hf (by decide +kernel) ?_)
  show wpAny _ _ (callWith pos (Value.builtin "ValueError.__init__") [] (backTo pos (starEach (e :: es) X.env)) []) _ _ _
  refine PyProof.Rows.callWith_method1 (thn (ha.run pos pins _ σ H _ (I.tok _) h) fun us s1 ⟨vs, H1, I1, r1, a, C, ws, ev, hl, T, ea, q⟩ => ?_) he hpl
  subst ev
  cases r1 with
  | @cons _ u0 _ ur ra rw' =>
    obtain rfl : u0 = Value.ref a := ra
    have hlen : ur.length ≤ sizeLine := by
      rw [← Paired.length rw', sizeLine_eq]
      omega
    exact oinit_ok T I1 ea hlen fun s' J => ⟨.non, H1, J, rfl, q⟩
end
/-- def __init__(self, par): x.__init__(self, 'm'); self.fld = par -/
def initBody (x slf par fld m : Str) (j : Nat) (p1 p2 p3 p4 p5 p6 q1 q2 q3 q4 : Pos) : List Stmt :=
  [.Expr (.Call (.Attribute (.Name x p1) "__init__" p2) [.Name slf p3, .Constant (.str m) j p4] [] p5) p6, .Assign [.Attribute (.Name slf q1) fld q2] (.Name par q3) q4]
/-- what it promises -/
def spInit (K : PySem.W.Frag) (fld : Str) : Sp := fun vs H Q _ => ∃ (a C : Addr) (v : V), vs = [.ref a, v] ∧ OexC K C ∧ PySem.W.findIn K (.ref C) fld = some none ∧ H a = some (exo a C none) ∧
  ∀ dx, H dx = none → dx ≠ a → Q .non (upd (upd H dx (exd dx [(fld, v)])) a (exo a C (some dx)))
theorem init_fn {CX : CXT} {P : Program} {w : World} {K : PySem.W.Frag} {mg : Str → Option Value} {base : Heap} {k : Nat} {f D : Addr} {name qual : Str} {params : Arguments} {scope : Scope} {dV kV doc pm cdv ct oc mc : Value} {an od : Option Addr}
    {osl : Array (Option Value)} {x slf par fld m : Str} {j : Nat} {p1 p2 p3 p4 p5 p6 q1 q2 q3 q4 : Pos}
    (lk : K.lookup f = some ⟨oc, od, .func (PySem.W.fnOf name qual params (initBody x slf par fld m j p1 p2 p3 p4 p5 p6 q1 q2 q3 q4) scope dV kV doc pm an cdv ct), osl⟩) (hcd : PySem.W.codeIn K cdv qual = true) (S : FnScope [slf, par] [slf, par] scope)
    (hv1 : visB scope slf = true) (hv2 : visB scope par = true) (hn1 : nmB slf = true) (hn2 : nmB par = true) (hx : glB scope x = true) (hxn : nmB x = true) (hm : mg x = some (.ref D))
    (hga : PySem.W.specialIn K (.ref D) "__getattribute__" = some (some (.builtin "type.__getattribute__"))) (hr : PySem.W.readsIn K D mc = true)
    (hf : PySem.W.findCls K (.ref D) mc "__init__" = some (.val (.builtin "ValueError.__init__")))
    (hc : ∀ env : Env, ∃ pl : Sem Bool, eval (.Call (.Attribute (.Name x p1) "__init__" p2) [.Name slf p3, .Constant (.str m) j p4] [] p5) env = (do
      let ov ← eval (.Name x p1) env
      standAt p2.atName
      let (f, first) ← holding [ov] (getMethod ov "__init__" pl)
      callWith p5 f first (backTo p5 (starEach [.Name slf p3, .Constant (.str m) j p4] env)) (backToKw p5 (keywordEach [] env)))) :
    FnOk P w K mg base CX (k + 1) f (PySem.W.fnOf name qual params (initBody x slf par fld m j p1 p2 p3 p4 p5 p6 q1 q2 q3 q4) scope dV kV doc pm an cdv ct) [slf, par] (spInit K fld) := by
  refine fn_of lk hcd S (fun vs H Q E ⟨a, C, v, e, _⟩ => by rw [e]; rfl) fun A outer s H vs Q E hr2 ⟨a, C, v, e, T, hno, ha, hq⟩ => ?_
  subst e
  obtain ⟨pl, hcc⟩ := hc (cxOf CX P w K mg base [slf, par] qual scope f cdv A outer s H E).env
  have n1 := hn1
  have n2 := hn2
  have n3 := hxn
  simp only [nmB, Bool.and_eq_true, Bool.not_eq_true'] at n1 n2 n3
  have v1 : ∀ p, PE (cxOf CX P w K mg base [slf, par] qual scope f cdv A outer s H E) (.Name slf p) (tVar 0) := fun p => pe_var rfl (visB_def hv1) n1.1 n1.2
  have v2 : ∀ p, PE (cxOf CX P w K mg base [slf, par] qual scope f cdv A outer s H E) (.Name par p) (tVar 1) := fun p => pe_var rfl (visB_def hv2) n2.1 n2.2
  refine ⟨_, pss_cons (ps_expr (pe_pinit (glB_def hx) hm n3.1 hga hr hf (pa_cons (v1 _) (pa_cons pe_str pa_nil)) hcc rfl rfl)) (pss_one (ps_ost (v1 _) (v2 _))), ?_⟩
  refine ⟨.ref a, rfl, a, C, [.str m], rfl, by simp, T, ha, ?_⟩
  refine ⟨v, rfl, .ref a, rfl, a, C, rfl, T, hno, .inl ⟨ha, fun dx h1 h2 => hq dx h1 h2⟩⟩
/-- a class of errors of the module with an __init__ that sets the field fld -/
def ExcAtF (X : Cx) (dp : Nat) (x fld : Str) : Prop := ∃ (C fI : Addr) (fd : FuncData) (slf par : Str) (k : Nat), OexC X.K C ∧ PySem.W.findIn X.K (.ref C) fld = some none ∧ X.mg x = some (.ref C) ∧
  PySem.W.findIn X.K (.ref C) "__init__" = some (some (.ref fI)) ∧ PySem.W.typeIn X.K (.ref fI) = some (.type "function") ∧ FnOk X.prog X.w X.K X.mg X.base C8.CX0 k fI fd [slf, par] (spInit X.K fld) ∧ Binds X.K fd [slf, par] [] ∧ k + 1 ≤ dp
end Cs
set_option Elab.async false
set_option linter.all false
set_option autoImplicit false
set_option maxRecDepth 100000
set_option maxHeartbeats 2000000
/-! Errors as values: made, asked for their class, their text, their field. -/
namespace Cs
open PySem L2 PyProof.Rows
/-! ### what is tracked of an error -/
section
variable {P : Program} {w : World} {H : Hp} {h : Heap} {a C : Addr} {t d : Option Addr}
theorem xcO_ok {o : Obj} {vs : Array Value} (e : h.get? a = some o) (h1 : o.cls = .ref C) (h2 : o.dict = d) (h3 : o.data = .fields vs) (h4 : ∀ b, t = some b → vs[0]? = some (.ref b)) : ObjOk P w H h a (xcO a C t d) :=
  ⟨⟨o, vs, e, h1, h2, h3, h4⟩, ⟨o, e⟩, fun _ _ ⟨o', vs', q, r⟩ k => ⟨o', vs', k o' q, r⟩⟩
theorem xcO_at (ok : HOk P w H h) (e : H a = some (xcO a C t d)) : ∃ (o : Obj) (vs : Array Value), h.get? a = some o ∧ o.cls = .ref C ∧ o.dict = d ∧ o.data = .fields vs ∧ ∀ b, t = some b → vs[0]? = some (.ref b) :=
  (show ObjOk P w H h a (.ext _) from ok a _ e).1
end
/-- what a class of errors must say, so that its errors are asked rightly as values -/
structure ErrC (K : PySem.W.Frag) (C : Addr) : Prop where
  x : L2.ExcC K C
  f : XfC K C
  str : PySem.W.findIn K (.ref C) "__str__" = some (some (.builtin "BaseException.__str__"))
section
variable {X : Cx} {pins : List (Addr × Obj)} {σ : L2.St} {H : Hp} {s : Shared} {a C : Addr} {t d : Option Addr}
/-- an error's object, as the model looks at an instance -/
theorem xc_inst (I : Inv X pins σ H s) (e : H a = some (xcO a C t d)) (hd : ∀ dx, d = some dx → ∃ vs, H dx = some (.xd vs)) : ∃ ox od, PySem.W.InstAt s.heap a ox C od := by
  obtain ⟨o, vs, e1, e2, e3, e4, _⟩ := xcO_at I.hok e
  have nc : PySem.W.notCls o := by unfold PySem.W.notCls; rw [e4] <;> rfl
  cases d with
  | none => exact ⟨o, none, e1, e2, nc, by rw [e3]; trivial⟩
  | some dx =>
    obtain ⟨fs, ed⟩ := hd dx rfl
    obtain ⟨mA, hns, _⟩ := (show ObjOk X.prog X.w H s.heap dx (.xd fs) from I.hok dx _ ed)
    obtain ⟨od, ho, _⟩ := lookIn_ns hns
    exact ⟨o, some od, e1, e2, nc, by rw [e3]; exact ho⟩
/-- two objects are laid at once -/
theorem un_two {fs ex : List Addr} {h h' : Heap} {b : Addr} {o u : HO} (k : ∀ c v, h.get? c = some v → h'.get? c = some v) (ga : h.get? a = none) (na : H a = none) (gb : h.get? b = none) (nb : H b = none) : Un fs ex H (upd (upd H b u) a o) h h' := by
  have at_ : ∀ {c : Addr} {z : HO}, H c = some z → upd (upd H b u) a o c = some z := fun {c z} q => (upd_ne (ne_of_none q na)).trans ((upd_ne (ne_of_none q nb)).trans q)
  exact ⟨fun c v q _ _ _ => k c v q, fun c v q _ _ _ => ⟨v.slots, k c v q⟩, fun c v q n _ => (upd_ne fun z => by rw [z, ga] at q; cases q).trans ((upd_ne fun z => by rw [z, gb] at q; cases q).trans n),
    fun c v q _ => ⟨v, k c v q⟩, fun c xs q => at_ q, fun c v xs q => at_ q, fun c ps q => ⟨#[], by rw [at_ q]; simp⟩⟩
theorem ok_two {P : Program} {w : World} {h h' : Heap} {b : Addr} {xs : List V} {φ : Heap → Prop} (ok : HOk P w H h) (k : ∀ c v, h.get? c = some v → h'.get? c = some v) (na : H a = none) (nb : H b = none) (n1 : ObjOk P w H h' b (.tup xs)) (n2 : ObjOk P w H h' a (.ext φ)) : HOk P w (upd (upd H b (.tup xs)) a (.ext φ)) h' := by
  intro c z e
  unfold upd at e
  split at e
  · rename_i hc
    subst hc
    cases e
    exact n2
  · split at e
    · rename_i hc
      subst hc
      cases e
      exact n1
    · have at_ : ∀ {c : Addr} {z : HO}, H c = some z → upd (upd H b (.tup xs)) a (.ext φ) c = some z := fun {c z} q => (upd_ne (ne_of_none q na)).trans ((upd_ne (ne_of_none q nb)).trans q)
      exact (ok c z e).stay (fun g v _ q => k g v q) (fun g q => at_ q) fun g ys q => at_ q
end
section
variable {X : Cx} {ta : TE} {e : Expr} {p pos : Pos} {x : Str}
/-- C(e), an own class of errors without an __init__, as a value: its argument is told -/
theorem pe_errX {C : Addr} {bmB : List Value} {B newId initId : String} (F : ExcBaseFacts B newId initId bmB) (q : PySem.W.excIn X.K C bmB newId = true) (gC : X.mg x = some (.ref C)) (kC : PySem.W.keepIn X.K (.ref C) = true) (hg : Gl X x)
    (he : PE X e ta) (hs : starEach [e] X.env = (false, eval e X.env) :: starEach [] X.env) (hd : (x == ("__debug__" : Str)) = false) :
    PE X (.Call (.Name x p) [e] [] pos) (fun σ H Q => ta σ H fun v H1 => ∀ a t, H1 a = none → H1 t = none → a ≠ t → Q (.ref a) (upd (upd H1 t (.tup [v])) a (xcO a C (some t) none))) := by
  have one : (1 : Nat) ≤ sizeLine := by rw [sizeLine_eq]; decide
  constructor
  intro pins s σ H Q I h
  have args := pa_cons he pa_nil hs
  refine wpAny_Call_Name_kw (ld_glob I hg gC (PySem.W.callWith_K (h₀ := X.base) I.ok.mod.kin kC ?_ hs rfl) hd)
  refine thn (args.run pos pins s σ H (fun vs H1 => match vs with
    | [v] => ∀ a t, H1 a = none → H1 t = none → a ≠ t → Q (.ref a) (upd (upd H1 t (.tup [v])) a (xcO a C (some t) none))
    | _ => False) I h) fun us s1 ⟨vs, H1, I1, rv, q1⟩ => ⟨I1.kIn, ?_⟩
  match vs, rv, q1 with
  | [v], rv, q1 =>
    obtain ⟨bm, N, nm, qn, bs, hdct, sn, sub, ab, col, dd, k0, k1, k2, k3, k5, mN, hC, hN, hni, T⟩ := exc_obj I1.kIn q
    refine wpAny_call_exc_subT F T hC hN hni (fun h' a hm => ?_) (by show us.length ≤ sizeLine; rw [← rv.length]; exact one)
    obtain ⟨t, g1, g2, g3⟩ := hm.there
    have na := I1.hok.gone hm.new
    have nt := I1.hok.gone g2
    have hne : a ≠ t := fun z => by rw [z, g3] at g1; cases g1
    exact ⟨.ref a, _, I1.un (t' := s1.toks) (un_two hm.keeps hm.new na g2 nt) (ok_two (xs := [v]) I1.hok hm.keeps na nt ⟨one, us, rv, _, g3, rfl, 0, rfl⟩ (xcO_ok g1 rfl rfl rfl fun b z => by cases z; rfl)), rfl, q1 a t na nt hne⟩
/-- what makes an error gives it as a value -/
theorem pe_of_mk {t : L2.St → Hp → XK → Prop} (h : PMk X e t) : PE X e (fun σ H Q => t σ H fun cls d H1 => ∃ C, cls = .ref C ∧ ∀ a, H1 a = none → Q (.ref a) (upd H1 a (xcO a C none d))) := by
  constructor
  intro pins s σ H Q I w
  refine thn (h pins s σ H _ I w) fun u s1 ⟨a, oe, vs, sI, H1, cls, d, eu, J, k, ga, ha, hz, hd, _, na, ho, hb, _, C, ec, q⟩ => ?_
  subst eu ec
  exact ⟨.ref a, _, J.call' (ch := []) ho (Un.laidN k ga na) (J.hok.laidN k na (xcO_ok ha hz.1 hz.2 hd fun b z => by cases z)) hb (fun b z => absurd z (by simp)), rfl, q a na⟩
/-- isinstance(e, c), e an error as a value -/
def rIsX (K : PySem.W.Frag) : List V → Hp → VK → Prop := fun xs H Q => ∃ (a C : Addr) (t d : Option Addr) (c : V) (cv : Value) (b : Bool), xs = [.ref a, c] ∧ ErrC K C ∧ H a = some (xcO a C t d) ∧ (∀ dx, d = some dx → ∃ vs, H dx = some (.xd vs)) ∧ (∀ u, RelV c u → u = cv) ∧ PySem.W.kitOne K (.ref C) cv = some b ∧ Q (.bl b) H
theorem call_isX : CallR X (.builtin "isinstance") (rIsX X.K) := by
  rintro pins s σ H xs us Q I r ⟨a, C, t, d, c, cv, b, rfl, T, ea, ed, hcv, e, q⟩
  obtain ⟨u1, u2, rfl, r1, r2⟩ := vals2 r
  cases r1
  cases hcv _ r2
  obtain ⟨ox, od, J⟩ := xc_inst I ea ed
  have hcl : (PySem.W.clsIn X.K C).isSome = true := by
    have z := T.x.hd
    unfold PySem.W.hasDictIn at z
    cases hc : PySem.W.clsIn X.K C with
    | none => rw [hc] at z; cases z
    | some cd => rfl
  exact PySem.W.kia_one (PySem.W.kitx_exc hcl T.x.hg T.x.hk T.x.hs T.x.ha T.x.hn T.x.ht T.x.hm) I.kIn J e (fun z => nomatch z) fun tk => ⟨.bl b, H, I.tok tk, rfl, q⟩
/-- str(e), e an error as a value, made with one text -/
theorem call_strX (hu : X.A.units + 2 < cLine) : CallR X (.type "str") (fun xs H Q => ∃ (a C t : Addr) (d : Option Addr) (m : Str), xs = [.ref a] ∧ ErrC X.K C ∧ H a = some (xcO a C (some t) d) ∧ H t = some (.tup [.str m]) ∧ Q (.str m) H) := by
  rintro pins s σ H xs us Q I r ⟨a, C, t, d, m, rfl, T, ea, et, q⟩
  cases r with
  | cons r1 rr =>
    cases rr
    cases r1
    obtain ⟨o, vs, e1, e2, _, e4, e5⟩ := xcO_at I.hok ea
    obtain ⟨_, its, rv, ot, h1, h2, n, h3⟩ := (show ObjOk X.prog X.w H s.heap t (.tup [.str m]) from I.hok t _ et)
    cases rv with
    | cons p q' =>
      cases q'
      obtain ⟨tk, rfl⟩ := p
      exact PySem.P.str_of_C_one (K := X.K) hu ⟨I.kIn, o, vs, e1, e2, e4, e5 t rfl⟩ ⟨ot, n, h1, h2, h3⟩ T.str T.x.hs ⟨.str m, H, I, ⟨tk, rfl⟩, q⟩
/-- e.f, e an error as a value -/
theorem pe_attX {te : TE} {n : Str} (he : PE X e te) (hb : attributeBase e n X.env (eval e X.env) = eval e X.env) :
    PE X (.Attribute e n pos) (fun σ H Q => te σ H fun x H1 => ∃ (a C dd : Addr) (t : Option Addr) (fs : List (Str × V)) (v : V), x = .ref a ∧ ErrC X.K C ∧ PySem.W.findIn X.K (.ref C) n = some none ∧ H1 a = some (xcO a C t (some dd)) ∧ H1 dd = some (.xd fs) ∧ fs.lookup n = some v ∧ Q v H1) := by
  constructor
  intro pins s σ H Q I h
  refine attr_of hb (thn (he.run pins s σ H _ I h) ?_)
  rintro u s1 ⟨x, H1, I1, rx, a, C, dd, t, fs, v, rfl, T, hno, ea, ed, l, q⟩
  cases rx
  obtain ⟨o, vs, e1, e2, e3, e4, _⟩ := xcO_at I1.hok ea
  obtain ⟨mA, hns, hr⟩ := (show ObjOk X.prog X.w H1 s1.heap dd (.xd fs) from I1.hok dd _ ed)
  obtain ⟨od, ho, hl⟩ := lookIn_ns hns
  obtain ⟨uv, hu, ru⟩ := RelO.some_of (v := v) (o := mA n) (by rw [← l]; exact hr n)
  have J : PySem.W.InstAt s1.heap a o C (some od) := ⟨e1, e2, by unfold PySem.W.notCls; rw [e4] <;> rfl, by rw [e3]; exact ho⟩
  exact HandSPX.exc_get I1.kIn J T.f.ga T.f.gg T.f.exC (PySem.W.findObj_own T.f.hdC hno rfl (by rw [hl, hu])) (handed_of ru) ⟨v, H1, I1.tok _, ru, q⟩
end
end Cs
set_option Elab.async false
set_option linter.all false
set_option autoImplicit false
set_option maxRecDepth 100000
set_option maxHeartbeats 2000000
/-! The further operations: what the interpreter says of them holds. -/
namespace Cs
open PySem L2 PyProof.Rows
/-- a class as the module's text names it -/
def NmC (X : Cx) (n : Str) (cv : Value) : Prop := (∃ C, X.mg n = some (.ref C) ∧ cv = .ref C) ∨ (X.mg n = none ∧ n ≠ "__name__" ∧ ∃ t, bootBuiltins n = some (.type t) ∧ cv = .type t)
theorem NmC.pe {X : Cx} {n : Str} {cv : Value} {p : Pos} (h : NmC X n cv) (hg : Gl X n) (hd : (n == ("__debug__" : Str)) = false) : ∃ v, PE X (.Name n p) (tC v) ∧ ∀ u, RelV v u → u = cv := by
  rcases h with ⟨C, h1, rfl⟩ | ⟨h1, h2, t, h3, rfl⟩
  · exact ⟨.ref C, pe_glob hg h1 rfl hd, fun u r => r⟩
  · exact ⟨.ty t, pe_bltn hg h1 h3 rfl h2 hd, fun u r => r⟩
/-- what the module says of its classes -/
structure ClsOk (X : Cx) (dp : Nat) (d : ClsK) : Prop where
  ex : ∀ x ∈ d.ex, (∃ bmB B n1 n2, ExcBaseFacts B n1 n2 bmB ∧ PySem.W.excIn X.K (He.ga X.K x) bmB n1 = true) ∧ X.mg x = some (.ref (He.ga X.K x)) ∧ PySem.W.keepIn X.K (.ref (He.ga X.K x)) = true ∧ ErrC X.K (He.ga X.K x)
  ef : ∀ p ∈ d.ef, X.mg p.1 = some (.ref (He.ga X.K p.1)) ∧ ExcAtF X dp p.1 p.2
  ia : ∀ p ∈ d.ia, ∃ cv, NmC X p.1 cv ∧ (∀ y ∈ p.2.1, ErrC X.K (He.ga X.K y) ∧ PySem.W.kitOne X.K (.ref (He.ga X.K y)) cv = some true) ∧ ∀ y ∈ p.2.2, ErrC X.K (He.ga X.K y) ∧ PySem.W.kitOne X.K (.ref (He.ga X.K y)) cv = some false
  fa : ∀ p ∈ d.fa, (p.2.2 = true → ErrC X.K (He.ga X.K p.1) ∧ PySem.W.findIn X.K (.ref (He.ga X.K p.1)) p.2.1 = some none) ∧ (p.2.2 = false → Cls X.K (He.ga X.K p.1) ∧ NoAttr X.K (He.ga X.K p.1) p.2.1)
section
variable {K : PySem.W.Frag} {w : World} {H : Hp} {C : Addr → Prop}
theorem FRel.look : ∀ {vs : List (Str × V)} {fs : List (Str × PyData)} {n : Str} {x : PyData}, FRel K w H C vs fs → fs.lookup n = some x → ∃ v, vs.lookup n = some v ∧ DR K w H C v x
  | (a, v) :: vs, (m, y) :: fs, n, x, ⟨⟨e, h⟩, r⟩, q => by
    subst e
    rw [List.lookup_cons] at q ⊢
    cases hb : (n == a) with
    | true => rw [hb] at q; cases q; exact ⟨v, rfl, h⟩
    | false => rw [hb] at q; exact FRel.look r q
  | [], [], _, _, _, q => by cases q
  | [], _ :: _, _, _, h, _ => h.elim
  | _ :: _, [], _, _, h, _ => h.elim
end
section
variable {X : Cx} {Z : WX} {b dp : Nat} {σV : L2.St} {d : ClsK} {O : Ora} {ra : Sl → K Cs.W} {e : Expr} {p pos : Pos}
theorem Then.obAt {α : Type} {f : Fm} {M : Mem} {H : Hp} {y : Cs.W} {v : V} {g : ObD → K α} {ok : α → Fm → Mem → Hp → Prop} {er : Exc → Fm → Mem → Hp → Prop} (m : MemOk X.K X.w f M H) (r : RW X.K X.w f M H v y)
    (h : Then X.K X.w b f M H ((obAt y).bnd g M) ok er) : ∃ n o, y = .c n ∧ n < M.length ∧ M[n]? = some (.obj o) ∧ v = .ref (f n) ∧ ObOk X.K X.w H (isC f M) (f n) o ∧ Then X.K X.w b f M H (g o M) ok er := by
  cases y with
  | d x => exact h.elim
  | c n =>
    simp only [Cs.obAt, K.bnd_assoc] at h
    obtain ⟨c, ec, h⟩ := h.look
    obtain ⟨hn, rfl⟩ := r
    have hc := m.cell n c ec
    cases c with
    | lst _ => exact h.elim
    | dic _ => exact h.elim
    | obj o => exact ⟨n, o, rfl, hn, ec, rfl, hc, h⟩
theorem p_mkx {cls : Str} (C : ClsOk X dp d) (hx : cls ∈ d.ex) (hg : Gl X cls) (hd : (cls == ("__debug__" : Str)) = false) (he : PE X e (tR X Z b ra)) (hs : starB e = true) :
    PE X (.Call (.Name cls p) [e] [] pos) (tR X Z b fun σ => (ra σ).bnd fun w => xW O (.mkx cls) [w]) := by
  obtain ⟨⟨bmB, B, n1, n2, F, q⟩, gC, kC, _⟩ := C.ex cls hx
  refine pe_to (pe_errX F q gC kC hg he (starB_def hs) hd) fun σ H Q h => ?_
  refine (tR.one h).mono fun v H1 ⟨f, M, x, m, hb, r, h⟩ => ?_
  cases x with
  | c n => exact h.elim
  | d y =>
    cases y with
    | str t =>
      cases (show DR X.K X.w H1 (isC f M) v (.str t) from r)
      intro a t' na nt hne
      obtain ⟨m1, x1⟩ := m.lay (b := b) (o := .tup [.str t]) nt
      have na' : upd H1 t' (.tup [.str t]) a = none := by rw [upd_ne hne]; exact na
      have nc := m1.rdNotC (.inl upd_same : Rd (upd H1 t' (.tup [.str t])) t' (.tup [.str t]))
      obtain ⟨f', e1, m2, x2⟩ := m1.alloc (b := b) (o := xcO a (He.ga X.K cls) (some t') none) (c := .obj ⟨true, cls, some t, []⟩) hb na' fun f' M' H' x' e => by
        obtain ⟨z1, z2⟩ := x'.stay t' _ (upd_same) (fun ps z => by cases z) nc
        exact .inr ⟨rfl, some t', none, e, fun m hm => by cases hm; exact ⟨t', rfl, z1, z2⟩, .inl ⟨rfl, rfl⟩⟩
      exact h f' _ (x1.trans m1 x2) m2 _ ⟨by simp, by rw [e1]⟩
    | _ => exact h.elim
theorem p_mkf {cls fld : Str} (C : ClsOk X dp d) (hx : (cls, fld) ∈ d.ef) (hr : Room dp X.A) (hg : Gl X cls) (hd : (cls == ("__debug__" : Str)) = false) (he : PE X e (tR X Z b ra)) (hs : starB e = true) :
    PE X (.Call (.Name cls p) [e] [] pos) (tR X Z b fun σ => (ra σ).bnd fun w => xW O (.mkf cls fld) [w]) := by
  obtain ⟨hmg, C0, fI, fd, slf, par, k, T, hno, gC, iC, tI, F1, hb, hk⟩ := C.ef (cls, fld) hx
  have eC : C0 = He.ga X.K cls := by
    have := hmg.symm.trans gC
    cases this
    rfl
  subst eC
  have ha : PA X [e] (tCons (tR X Z b ra) tNil) := pa_cons he pa_nil (starB_def hs)
  refine pe_to (pe_of_mk (pmk_oex (dvs := []) T iC tI F1 (hr.mono hk) hb .nil pass0 hg gC ha hd (starB_def hs) rfl)) fun σ H Q h => ?_
  refine (tR.one h).mono fun v H1 ⟨f, M, x, m, hb, r, h⟩ => ?_
  cases x with
  | c n => exact h.elim
  | d y =>
    refine ⟨by simp, fun a na => ?_⟩
    refine ⟨a, He.ga X.K cls, v, rfl, T, hno, upd_same, fun dx h2 hda => ?_⟩
    have h2' : H1 dx = none := by rw [upd_ne hda] at h2; exact h2
    refine ⟨rfl, dx, [(fld, v)], upd_same, by rw [upd_ne hda]; exact upd_same, h2', He.ga X.K cls, rfl, fun c nc0 => ?_⟩
    have e1 : upd (del (upd (upd (upd H1 a (exo a (He.ga X.K cls) none)) dx (exd dx [(fld, v)])) a (exo a (He.ga X.K cls) (some dx))) a) dx (.xd [(fld, v)]) = upd H1 dx (.xd [(fld, v)]) := by
      funext g
      by_cases hgd : g = dx
      · rw [hgd, upd_same, upd_same]
      · rw [upd_ne hgd, upd_ne hgd]
        by_cases hga : g = a
        · rw [hga, del_same, na]
        · rw [del_ne hga, upd_ne hga, upd_ne hgd, upd_ne hga]
    rw [e1] at nc0 ⊢
    obtain ⟨m1, x1⟩ := m.lay (b := b) (o := .xd [(fld, v)]) h2'
    have nc : ¬ isC f M dx := m.notC h2'
    have rv : DR X.K X.w (upd H1 dx (.xd [(fld, v)])) (isC f M) v y := DR.stay x1.stay (show DR X.K X.w H1 (isC f M) v y from r)
    obtain ⟨f', e2, m2, x2⟩ := m1.alloc (b := b) (o := xcO c (He.ga X.K cls) none (some dx)) (c := .obj ⟨true, cls, none, [(fld, y)]⟩) hb nc0 fun f' M' H' x' e => by
      obtain ⟨z1, z2⟩ := x'.stay dx _ (upd_same) (fun ps z => by cases z) nc
      exact .inr ⟨rfl, none, some dx, e, fun m hm => (by cases hm), .inr ⟨dx, [(fld, v)], rfl, z1, z2, ⟨rfl, rv.stay x'.stay⟩, trivial⟩⟩
    exact h f' _ (x1.trans m1 x2) m2 _ ⟨by simp, by rw [e2]⟩
theorem ObOk.err {K : PySem.W.Frag} {w : World} {H : Hp} {C : Addr → Prop} {a : Addr} {o : ObD} (h : ObOk K w H C a o) (e : o.err = true) : ∃ t d, H a = some (xcO a (He.ga K o.cls) t d) ∧ (∀ m, o.txt = some m → ∃ b, t = some b ∧ H b = some (.tup [.str m])) ∧ (∀ dx, d = some dx → ∃ vs, H dx = some (.xd vs)) ∧
    ((d = none ∧ o.fs = []) ∨ ∃ dx vs, d = some dx ∧ H dx = some (.xd vs) ∧ FRel K w H C vs o.fs) := by
  rcases h with ⟨z, _⟩ | ⟨_, t, d, h1, h2, h3⟩
  · rw [e] at z; cases z
  · refine ⟨t, d, h1, fun m hm => let ⟨b, z0, z1, _⟩ := h2 m hm; ⟨b, z0, z1⟩, fun dx hd => ?_, h3.imp id fun ⟨dx, vs, a, b, _, c⟩ => ⟨dx, vs, a, b, c⟩⟩
    rcases h3 with ⟨z, _⟩ | ⟨dx', vs, z, h4, _⟩
    · rw [z] at hd; cases hd
    · rw [z] at hd; cases hd; exact ⟨vs, h4⟩
theorem p_isc {cls : Str} {yes no : List Str} {p2 : Pos} (C : ClsOk X dp d) (hx : (cls, (yes, no)) ∈ d.ia) (hg : Gl X "isinstance") (hm : X.mg "isinstance" = none) (hg2 : Gl X cls) (hd : (cls == ("__debug__" : Str)) = false) (he : PE X e (tR X Z b ra)) (hs : starB e = true) :
    PE X (.Call (.Name "isinstance" p) [e, .Name cls p2] [] pos) (tR X Z b fun σ => (ra σ).bnd fun w => xW O (.isc cls yes no) [w]) := by
  obtain ⟨cv, hn, h1, h2⟩ := C.ia _ hx
  obtain ⟨v0, hp, hv0⟩ := hn.pe (p := p2) hg2 hd
  refine pe_to (pe_callB (call_isX) hg hm boot_isinstance (pa_cons he (pa_cons hp pa_nil rfl) (starB_def hs)) (by decide) (by decide) (starB_def hs) rfl) fun σ H Q h => ?_
  refine (tR.one h).mono fun v H1 ⟨f, M, x, m, hb, r, h⟩ => ?_
  obtain ⟨n, o, rfl, hn, ec, rfl, ok, h⟩ := Then.obAt m r h
  by_cases he : o.err = true
  · rw [if_pos he] at h
    obtain ⟨t, dd, g1, _, g3, _⟩ := ok.err he
    have fin : ∀ bb : Bool, ErrC X.K (He.ga X.K o.cls) → PySem.W.kitOne X.K (.ref (He.ga X.K o.cls)) cv = some bb → Q (.bl bb) H1 → rIsX X.K [.ref (f n), v0] H1 Q := fun bb T k q => ⟨f n, He.ga X.K o.cls, t, dd, v0, cv, bb, rfl, T, g1, g3, hv0, k, q⟩
    by_cases hy : yes.contains o.cls = true
    · rw [if_pos hy] at h
      obtain ⟨T, k⟩ := h1 o.cls (by simpa using hy)
      exact fin true T k (h f H1 .refl m (.bl true) (DR.bl true))
    · rw [if_neg hy] at h
      by_cases hz : no.contains o.cls = true
      · rw [if_pos hz] at h
        obtain ⟨T, k⟩ := h2 o.cls (by simpa using hz)
        exact fin false T k (h f H1 .refl m (.bl false) (DR.bl false))
      · rw [if_neg hz] at h; exact h.elim
  · rw [if_neg he] at h; exact h.elim
theorem p_att {cls fld : Str} {err : Bool} (C : ClsOk X dp d) (hx : (cls, (fld, err)) ∈ d.fa) (he : PE X e (tR X Z b ra)) (hb : baseB e = true) :
    PE X (.Attribute e fld pos) (tR X Z b fun σ => (ra σ).bnd fun w => xW O (.att cls fld err) [w]) := by
  obtain ⟨c1, c2⟩ := C.fa _ hx
  cases err with
  | true =>
    obtain ⟨T, hno⟩ := c1 rfl
    refine pe_to (pe_attX he (baseB_def hb)) fun σ H Q h => ?_
    refine (tR.one h).mono fun v H1 ⟨f, M, x, m, hb, r, h⟩ => ?_
    obtain ⟨n, o, rfl, hn, ec, rfl, ok, h⟩ := Then.obAt m r h
    split at h
    · rename_i hc
      obtain ⟨z, ez, h⟩ := h.opt1
      obtain ⟨y, ey, rfl⟩ := Option.map_eq_some_iff.mp ez
      obtain ⟨t, dd, g1, _, _, g4⟩ := ok.err hc.2
      rcases g4 with ⟨_, g5⟩ | ⟨dx, vs, rfl, g5, g6⟩
      · rw [g5] at ey; cases ey
      · obtain ⟨v', l, rv⟩ := g6.look ey
        rw [hc.1] at g1
        exact ⟨f n, _, dx, t, vs, v', rfl, T, hno, g1, g5, l, h f H1 .refl m v' rv⟩
    · exact h.elim
  | false =>
    obtain ⟨T, hno⟩ := c2 rfl
    refine pe_to (pe_fld he (baseB_def hb)) fun σ H Q h => ?_
    refine (tR.one h).mono fun v H1 ⟨f, M, x, m, hb, r, h⟩ => ?_
    obtain ⟨n, o, rfl, hn, ec, rfl, ok, h⟩ := Then.obAt m r h
    split at h
    · rename_i hc
      obtain ⟨z, ez, h⟩ := h.opt1
      obtain ⟨y, ey, rfl⟩ := Option.map_eq_some_iff.mp ez
      rcases ok with ⟨_, _, dx, vs, g1, g2, g3, g4⟩ | ⟨z, _⟩
      · obtain ⟨v', l, rv⟩ := g4.look ey
        rw [hc.1] at g1
        exact ⟨f n, _, dx, vs, v', rfl, g1, T, hno, l, h f H1 .refl m v' rv⟩
      · rw [hc.2] at z; cases z
    · exact h.elim
theorem p_strx {cs : List Str} (C : ClsOk X dp d) (hx : ∀ x ∈ cs, x ∈ d.ex) (hu : X.A.units + 100 < cLine) (hg : Gl X "str") (hm : X.mg "str" = none) (he : PE X e (tR X Z b ra)) (hs : starB e = true) :
    PE X (.Call (.Name "str" p) [e] [] pos) (tR X Z b fun σ => (ra σ).bnd fun w => xW O (.strx cs) [w]) := by
  refine pe_to (pe_callTy (call_strX (by omega)) hg hm boot_str (pa_cons he pa_nil (starB_def hs)) (by decide) (by decide) (starB_def hs) rfl) fun σ H Q h => ?_
  refine (tR.one h).mono fun v H1 ⟨f, M, x, m, hb, r, h⟩ => ?_
  obtain ⟨n, o, rfl, hn, ec, rfl, ok, h⟩ := Then.obAt m r h
  split at h
  · rename_i hc
    rw [Bool.and_eq_true] at hc
    obtain ⟨z, ez, h⟩ := h.opt1
    obtain ⟨y, ey, rfl⟩ := Option.map_eq_some_iff.mp ez
    obtain ⟨t, dd, g1, g2, _, _⟩ := ok.err hc.1
    obtain ⟨_, _, _, T⟩ := C.ex o.cls (hx _ (by simpa using hc.2))
    obtain ⟨bt, rfl, g3⟩ := g2 y ey
    exact ⟨f n, _, bt, dd, y, rfl, T, g1, g3, h f H1 .refl m _ (DR.str y)⟩
  · exact h.elim
end
end Cs
set_option Elab.async false
set_option linter.all false
set_option autoImplicit false
set_option maxRecDepth 100000
set_option maxHeartbeats 2000000
/-! Every expression that the checker lets through does what the interpreter says. -/
namespace Cs
open PySem L2 PyProof.Rows
noncomputable def ora (b : Nat) (J : Info) (k : Nat) : Ora := ⟨b, J.glob, calln J k⟩
def blNames : List Str := ["len", "int", "str", "all", "any", "tuple", "list", "sorted", "min", "max", "dict", "isinstance", "range", "zip", "enumerate", "set", "bool"]
/-- a tuple of the module, an object of its own -/
def GTup (X : Cx) (x : Str) (ds : List PyData) : Prop := ∃ a o, X.mg x = some (.ref a) ∧ X.K.lookup a = some o ∧ o.cls = .type "tuple" ∧ o.dict = none ∧ ∀ H C, DR X.K X.w H C (.ref a) (.tuple ds)
/-- the except clauses of a helper: the class, the text -/
inductive HW (mg : Str → Option Value) (sg : Scope) : List ExceptHandler → List (Value × Str) → Prop
  | nil : HW mg sg [] []
  | cons {x t : Str} {c : Value} {np p1 p2 pos' : Pos} {j : Nat} {hds : List ExceptHandler} {l : List (Value × Str)} (h1 : sg.names.lookup x = some .globalImplicit) (h2 : (x == ("__debug__" : Str)) = false) (h3 : mg x = some c) (r : HW mg sg hds l) :
      HW mg sg (.ExceptHandler (some (.Name x np)) none [.Return (some (.Constant (.str t) j p1)) p2] pos' :: hds) ((c, t) :: l)
/-- what the first that fits answers -/
def pick (K : PySem.W.Frag) (cls : Value) : List (Value × Str) → Option Str
  | [] => none
  | (c, t) :: r => match PySem.W.exmOne K cls c with
    | some true => some t
    | some false => pick K cls r
    | none => none
/-- the module's helper x: it calls what it gets, and answers by texts -/
def WordAt (K : PySem.W.Frag) (mg : Str → Option Value) (x : Str) (tb : List (Str × Str)) (fine : Str) : Prop :=
  ∃ (g : Addr) (pg : Arguments) (bg : List Stmt) (sg : Scope) (dV kV doc pm cdv ct oc : Value) (an od : Option Addr) (osl : Array (Option Value)) (Ng : List Str) (a : Str) (h₀ : ExceptHandler) (hds : List ExceptHandler) (l : List (Value × Str)) (j : Nat) (p1 p2 p3 p5 p6 p8 : Pos),
    mg x = some (.ref g) ∧ PySem.W.keepIn K (.ref g) = true ∧ K.lookup g = some ⟨oc, od, .func (PySem.W.fnOf x x pg bg sg dV kV doc pm an cdv ct), osl⟩ ∧ PySem.W.codeIn K cdv x = true ∧ L2.Binds K (PySem.W.fnOf x x pg bg sg dV kV doc pm an cdv ct) [a] [] ∧
    FnScope Ng [a] sg ∧ Ng[0]? = some a ∧ Vis sg a ∧ (a == ("__debug__" : Str)) = false ∧ (a == ("__classdict__" : Str)) = false ∧
    bg = [.Try [.Expr (.Call (.Name a p1) [] [] p2) p3] (h₀ :: hds) [] [] p8, .Return (some (.Constant (.str fine) j p5)) p6] ∧ HW mg sg (h₀ :: hds) l ∧
    ∀ e t, tb.lookup e = some t → ∀ ca, mg e = some (.ref ca) → pick K (.ref ca) l = some t
theorem ClsOk.at_ {X Y : Cx} {dp : Nat} {d : ClsK} (C : ClsOk X dp d) (h1 : Y.K = X.K) (h2 : Y.mg = X.mg) (h3 : Y.prog = X.prog) (h4 : Y.w = X.w) (h5 : Y.base = X.base) : ClsOk Y dp d := by
  obtain ⟨a, b, c, e⟩ := C
  unfold ExcAtF at b
  unfold NmC at c
  refine ⟨?_, ?_, ?_, ?_⟩
  · rw [h1, h2]; exact a
  · unfold ExcAtF
    rw [h1, h2, h3, h4, h5]; exact b
  · unfold NmC
    rw [h1, h2]; exact c
  · rw [h1]; exact e
structure LamOk (X : Cx) (dp : Nat) (ws : List (Str × (List (Str × Str) × Str))) : Prop where
  room : Room (dp + 2) X.A
  tb : ∃ c P, LamX.TabB X.base X.mg c P ∧ X.env.code = .ref c ∧ tnK X.K P = some (X.env.qual ++ "<lambda>")
  hp : ∀ x tb fine, ws.lookup x = some (tb, fine) → WordAt X.K X.mg x tb fine
structure Good (X : Cx) (Z : WX) (b : Nat) (J : Info) (k dp : Nat) (c : CEnv) : Prop where
  calm : X.calm = true
  nd : X.N.Nodup
  un : X.A.units + 100 < cLine
  tk : Takes X Z
  N : X.N = c.N
  sc : X.env.scope = c.sc
  tgt : ∀ x, tgB c.rs x = true → Loc X.env.scope x ∧ (X.fn x = true ∨ X.env.scope.names.lookup x = some .local)
  blt : ∀ x ∈ blNames, X.mg x = none
  glob : ∀ x ∈ c.gs, ∃ d, J.glob x = some d ∧ GlobOk X x d
  tups : ∀ x ∈ c.ts, ∃ ds, J.glob x = some (.tuple ds) ∧ GTup X x ds
  fns : ∀ x ∈ c.fs, FnAt X.prog X.w X.K X.mg X.base J k dp x
  room : Room dp X.A
  lam : c.w = true → LamOk X dp c.ws
  dp2 : 2 ≤ dp
  cls : ClsOk X dp c.cd
theorem tgB_def {rs : Scope} {x : Str} (h : tgB rs x = true) : rs.names.lookup x = some .local ∨ rs.names.lookup x = some .cell := by
  unfold tgB at h
  split at h
  · exact .inl ‹_›
  · exact .inr ‹_›
  · cases h
theorem Good.blk {X : Cx} {Z : WX} {b : Nat} {J : Info} {k dp : Nat} {c : CEnv} (g : Good X Z b J k dp c) (scope : Scope) (s : Shared) (H : Hp) (C : Addr) (cl : List (Str × Addr)) (fp : List Addr) :
    Good (X.blk s H scope (compEnvC scope cl C X.env) fp) Z0 b J k dp (c.blk scope) := by
  refine ⟨g.calm, g.nd, g.un, fun u s' ⟨_, _, _, _, _, _, _, _, _, _, _, _, _, _, _, _, z⟩ => z.elim, g.N, ?_, fun x h => ?_, g.blt, g.glob, g.tups, g.fns, g.room, fun z => Bool.noConfusion z, g.dp2, g.cls.at_ rfl rfl rfl rfl rfl⟩
  · show relS scope X.env.scope = relS scope c.sc
    rw [g.sc]
  · rcases tgB_def h with h | h
    · have := lookup_relS_keep (sc := X.env.scope) (k := .local) (by decide) h
      exact ⟨.inl this, .inr this⟩
    · have := lookup_relS_keep (sc := X.env.scope) (k := .cell) (by decide) h
      exact ⟨.inr this, .inl (by show (scope.names.lookup x == some NameKind.cell) = true; rw [show List.lookup x scope.names = some NameKind.cell from h]; rfl)⟩
section
variable (J : Info) (k : Nat)
def ME (E : E) : Prop := ∀ (X : Cx) (Z : WX) (b dp : Nat) (c : CEnv), Good X Z b J k dp c → ∀ e, chkE c E e = true → starB e = true ∧ PE X e (tR X Z b fun σ => ev (ora b J k) σ E) ∧ PT X e (tT X Z b fun σ => (ev (ora b J k) σ E).bnd bool) ∧
  ∀ op vs pos, e = .BoolOp op vs pos → PW X e (tT X Z b fun σ => (ev (ora b J k) σ E).bnd bool)
def MEs (E : Es) : Prop := ∀ (X : Cx) (Z : WX) (b dp : Nat) (c : CEnv), Good X Z b J k dp c → ∀ es, chkEs c E es = true → es.all starB = true ∧ PA X es (tRs X Z b fun σ => evs (ora b J k) σ E)
def MK (E : KVs) : Prop := ∀ (X : Cx) (Z : WX) (b dp : Nat) (c : CEnv), Good X Z b J k dp c → ∀ pos keys values, chkK c E keys values = true → keys.all (·.isSome) = true ∧ keys.length = values.length ∧ PK X pos keys values (tK X Z b fun σ => evk (ora b J k) σ E)
def MO (E : Oe) : Prop := (∀ (X : Cx) (Z : WX) (b dp : Nat) (c : CEnv), Good X Z b J k dp c → ∀ e, chkO c E e = true → PO X e (tO X Z b fun σ => evo (ora b J k) σ E)) ∧
  ∀ (X : Cx) (Z : WX) (b dp : Nat) (c : CEnv), Good X Z b J k dp c → ∀ es, chkT c E es = true → PTs X es (tT X Z b fun σ => evc (ora b J k) σ E)
def MI (E : I) : Prop := ∀ (X : Cx) (Z : WX) (b dp : Nat) (c : CEnv), Good X Z b J k dp c → ∀ tg e, chkI c E tg e = true → PI X tg e (iR X Z b fun σ => evi (ora b J k) σ E)
end
section
variable {J : Info} {k : Nat} {X : Cx} {Z : WX} {b dp : Nat} {c : CEnv}
theorem mk1 {e : Expr} {run : Sl → K Cs.W} (h : PE X e (tR X Z b run)) (ht : testB e = true) (hs : starB e = true) : starB e = true ∧ PE X e (tR X Z b run) ∧ PT X e (tT X Z b fun σ => (run σ).bnd bool) ∧
    ∀ op vs pos, e = .BoolOp op vs pos → PW X e (tT X Z b fun σ => (run σ).bnd bool) :=
  ⟨hs, h, t_val h (testB_def ht), fun op vs pos z => by subst z; simp [testB] at ht⟩
theorem mk2 {e : Expr} {run : Sl → K Cs.W} (h : PE X e (tR X Z b run)) (ht : PT X e (tT X Z b fun σ => (run σ).bnd bool)) (hs : starB e = true) (hn : ∀ op vs pos, e ≠ .BoolOp op vs pos) : starB e = true ∧ PE X e (tR X Z b run) ∧ PT X e (tT X Z b fun σ => (run σ).bnd bool) ∧
    ∀ op vs pos, e = .BoolOp op vs pos → PW X e (tT X Z b fun σ => (run σ).bnd bool) := ⟨hs, h, ht, fun op vs pos z => absurd z (hn op vs pos)⟩
theorem PW.pt {e : Expr} {t : TT} (h : PW X e t) : PT X e t := ⟨fun pins s σ H Q I w => h.run _ pins s σ H Q I w⟩
theorem l_var (i : Nat) : ME J k (.var i) := by
  intro X Z b dp c g e h
  cases e with
  | Name x pos =>
    have h : ((c.N[i]? == some x) && (visB c.sc x && nmB x)) = true := h
    simp only [Bool.and_eq_true, nmB, Bool.not_eq_true'] at h
    exact mk1 (p_var (by rw [g.N]; exact eq_of_beq h.1) (visB_def (by rw [g.sc]; exact h.2.1)) h.2.2.1 h.2.2.2) rfl rfl
  | _ => exact Bool.noConfusion h
theorem l_glob (x : Str) : ME J k (.glob x) := by
  intro X Z b dp c g e h
  cases e with
  | Name y pos =>
    have h : ((x == y) && (glB c.sc y && (c.gs.contains y && nmB y))) = true := h
    simp only [Bool.and_eq_true, nmB, Bool.not_eq_true'] at h
    obtain ⟨h1, h2, h3, h4, h5⟩ := h
    have := eq_of_beq h1
    subst this
    obtain ⟨d, e1, ok⟩ := g.glob x (by simpa using h3)
    exact mk1 (p_glob (glB_def (by rw [g.sc]; exact h2)) ok h4 fun σ => by show K.opt ((J.glob x).map W.d) = _; rw [e1]; rfl) rfl rfl
  | _ => exact Bool.noConfusion h
theorem l_con (d : PyData) : ME J k (.con d) := by
  intro X Z b dp c g e h
  cases e with
  | Constant kk j pos => exact mk1 (p_con (conB_def h)) rfl rfl
  | _ => exact Bool.noConfusion h
theorem l_op {o : O2} {a b : E} (ha : ME J k a) (hb : ME J k b) : ME J k (.op o a b) := by
  intro X Z b dp c g e h
  cases e with
  | BinOp x p y pos =>
    have h : (opB o p && (chkE c a x && chkE c _ y)) = true := h
    simp only [Bool.and_eq_true] at h
    have := opB_def h.1
    subst this
    exact mk1 (p_op o (ha X Z b dp c g x h.2.1).2.1 (hb X Z b dp c g y h.2.2).2.1) rfl rfl
  | _ => exact Bool.noConfusion h
theorem l_cat {a b : E} (ha : ME J k a) (hb : ME J k b) : ME J k (.cat a b) := by
  intro X Z b dp c g e h
  cases e with
  | BinOp x p y pos =>
    have h : (opB .add p && (chkE c a x && chkE c _ y)) = true := h
    simp only [Bool.and_eq_true] at h
    have := opB_def h.1
    subst this
    exact mk1 (p_cat (ha X Z b dp c g x h.2.1).2.1 (hb X Z b dp c g y h.2.2).2.1) rfl rfl
  | _ => exact Bool.noConfusion h
theorem l_neg {a : E} (ha : ME J k a) : ME J k (.neg a) := by
  intro X Z b dp c g e h
  cases e with
  | UnaryOp p x pos =>
    cases p with
    | USub => exact mk1 (p_neg (ha X Z b dp c g x h).2.1) rfl rfl
    | _ => exact Bool.noConfusion h
  | _ => exact Bool.noConfusion h
theorem l_not {a : E} (ha : ME J k a) : ME J k (.not_ a) := by
  intro X Z b dp c g e h
  cases e with
  | UnaryOp p x pos =>
    cases p with
    | Not =>
      obtain ⟨_, h1, h2, _⟩ := ha X Z b dp c g x h
      exact mk2 (p_not h1) (t_not h2) rfl fun _ _ _ z => nomatch z
    | _ => exact Bool.noConfusion h
  | _ => exact Bool.noConfusion h
theorem l_cmp {o : Cm} {a b : E} (ha : ME J k a) (hb : ME J k b) : ME J k (.cmp o a b) := by
  intro X Z b dp c g e h
  cases e with
  | Compare x ops ys pos =>
    match ops, ys, h with
    | [p], [y], h =>
      have h : (cmB o p && (!behindInMarks p y && (chkE c a x && chkE c _ y))) = true := h
      simp only [Bool.and_eq_true, Bool.not_eq_true'] at h
      obtain ⟨h1, h2, h3, h4⟩ := h
      have := cmB_def h1
      subst this
      have hc := c_cmpR (b := b) o g.un (ha X Z b dp c g x h3).2.1 (hb X Z b dp c g y h4).2.1
      exact mk2 (pe_cmp hc h2) (t_cmp hc h2) rfl fun _ _ _ z => nomatch z
  | _ => exact Bool.noConfusion h
theorem l_kin {neg : Bool} {a b : E} (ha : ME J k a) (hb : ME J k b) : ME J k (.kin neg a b) := by
  intro X Z b dp c g e h
  cases e with
  | Compare x ops ys pos =>
    match ops, ys, h with
    | [p], [y], h =>
      have h : (cmB (if neg then .nin else .inn) p && (!behindInMarks p y && (chkE c a x && chkE c _ y))) = true := h
      simp only [Bool.and_eq_true, Bool.not_eq_true'] at h
      obtain ⟨h1, h2, h3, h4⟩ := h
      have hp := cmB_def h1
      have hp : p = (if neg then CmpOp.NotIn else .In) := by rw [hp]; cases neg <;> rfl
      subst hp
      have hc := c_kin (b := b) neg g.un (ha X Z b dp c g x h3).2.1 (hb X Z b dp c g y h4).2.1
      exact mk2 (pe_cmp hc h2) (t_cmp hc h2) rfl fun _ _ _ z => nomatch z
  | _ => exact Bool.noConfusion h
theorem l_isN {a : E} (ha : ME J k a) : ME J k (.isN a) := by
  intro X Z b dp c g e h
  cases e with
  | Compare x ops ys pos =>
    match ops, ys, h with
    | [.Is], [.Constant .none j p2], h =>
      have hc := c_isN (j := j) (pos' := p2) (ha X Z b dp c g x h).2.1
      exact mk2 (pe_cmp hc rfl) (t_cmp hc rfl) rfl fun _ _ _ z => nomatch z
  | _ => exact Bool.noConfusion h
theorem l_notN {a : E} (ha : ME J k a) : ME J k (.notN a) := by
  intro X Z b dp c g e h
  cases e with
  | Compare x ops ys pos =>
    match ops, ys, h with
    | [.IsNot], [.Constant .none j p2], h =>
      have hc := c_notN (j := j) (pos' := p2) (ha X Z b dp c g x h).2.1
      exact mk2 (pe_cmp hc rfl) (t_cmp hc rfl) rfl fun _ _ _ z => nomatch z
  | _ => exact Bool.noConfusion h
theorem l_chain {o o' : Cm} {a b d : E} (ha : ME J k a) (hb : ME J k b) (hd : ME J k d) : ME J k (.chain o o' a b d) := by
  intro X Z b dp c g e h
  cases e with
  | Compare x ops ys pos =>
    match ops, ys, h with
    | [p, q], [y, z], h =>
      have h : (cmB o p && (cmB o' q && (!lastMarks [p, q] [y, z] && (chkE c a x && (chkE c _ y && chkE c d z))))) = true := h
      simp only [Bool.and_eq_true, Bool.not_eq_true'] at h
      obtain ⟨h1, h2, h3, h4, h5, h6⟩ := h
      have := cmB_def h1
      subst this
      have := cmB_def h2
      subst this
      exact mk2 (p_chain o o' g.un (ha X Z b dp c g x h4).2.1 (hb X Z b dp c g y h5).2.1 (hd X Z b dp c g z h6).2.1 h3) (t_chain o o' g.un (ha X Z b dp c g x h4).2.1 (hb X Z b dp c g y h5).2.1 (hd X Z b dp c g z h6).2.1 h3) rfl fun _ _ _ z => nomatch z
  | _ => exact Bool.noConfusion h
theorem l_and {a r : E} (ha : ME J k a) (hr : ME J k r) : ME J k (.and_ a r) := by
  intro X Z b dp c g e h
  cases e with
  | BoolOp op vs pos =>
    have fin : ∀ {x y : Expr} {w : List Expr}, chkE c a x = true → PE X (.BoolOp .And (y :: w) pos) (tR X Z b fun σ => ev (ora b J k) σ r) → PW X (.BoolOp .And (y :: w) pos) (tT X Z b fun σ => (ev (ora b J k) σ r).bnd bool) →
        starB (.BoolOp .And (x :: y :: w) pos) = true ∧ PE X (.BoolOp .And (x :: y :: w) pos) (tR X Z b fun σ => ev (ora b J k) σ (.and_ a r)) ∧ PT X (.BoolOp .And (x :: y :: w) pos) (tT X Z b fun σ => (ev (ora b J k) σ (.and_ a r)).bnd bool) ∧
          ∀ op vs pos', Expr.BoolOp .And (x :: y :: w) pos = .BoolOp op vs pos' → PW X (.BoolOp .And (x :: y :: w) pos) (tT X Z b fun σ => (ev (ora b J k) σ (.and_ a r)).bnd bool) := fun {x y w} h1 h2 h3 => by
      obtain ⟨_, a1, a2, _⟩ := ha X Z b dp c g x h1
      have q := t_and a2 h3
      exact ⟨rfl, p_and a1 h2, Cs.PW.pt q, fun _ _ _ _ => q⟩
    match op, vs, h with
    | .And, [x, y], h =>
      have h : (chkE c a x && chkE c r y) = true := h
      simp only [Bool.and_eq_true] at h
      obtain ⟨_, b1, b2, _⟩ := hr X Z b dp c g y h.2
      exact fin h.1 (pe_one b1) (pw_and1 b2)
    | .And, x :: y :: z :: w, h =>
      have h : (chkE c a x && chkE c r (.BoolOp .And (y :: z :: w) pos)) = true := h
      simp only [Bool.and_eq_true] at h
      obtain ⟨_, b1, b2, b3⟩ := hr X Z b dp c g _ h.2
      exact fin h.1 b1 (b3 _ _ _ rfl)
  | _ => exact Bool.noConfusion h
theorem l_or {a r : E} (ha : ME J k a) (hr : ME J k r) : ME J k (.or_ a r) := by
  intro X Z b dp c g e h
  cases e with
  | BoolOp op vs pos =>
    have fin : ∀ {x y : Expr} {w : List Expr}, chkE c a x = true → PE X (.BoolOp .Or (y :: w) pos) (tR X Z b fun σ => ev (ora b J k) σ r) → PW X (.BoolOp .Or (y :: w) pos) (tT X Z b fun σ => (ev (ora b J k) σ r).bnd bool) →
        starB (.BoolOp .Or (x :: y :: w) pos) = true ∧ PE X (.BoolOp .Or (x :: y :: w) pos) (tR X Z b fun σ => ev (ora b J k) σ (.or_ a r)) ∧ PT X (.BoolOp .Or (x :: y :: w) pos) (tT X Z b fun σ => (ev (ora b J k) σ (.or_ a r)).bnd bool) ∧
          ∀ op vs pos', Expr.BoolOp .Or (x :: y :: w) pos = .BoolOp op vs pos' → PW X (.BoolOp .Or (x :: y :: w) pos) (tT X Z b fun σ => (ev (ora b J k) σ (.or_ a r)).bnd bool) := fun {x y w} h1 h2 h3 => by
      obtain ⟨_, a1, a2, _⟩ := ha X Z b dp c g x h1
      have q := t_or a2 h3
      exact ⟨rfl, p_or a1 h2, Cs.PW.pt q, fun _ _ _ _ => q⟩
    match op, vs, h with
    | .Or, [x, y], h =>
      have h : (chkE c a x && chkE c r y) = true := h
      simp only [Bool.and_eq_true] at h
      obtain ⟨_, b1, b2, _⟩ := hr X Z b dp c g y h.2
      exact fin h.1 (pe_one b1) (pw_or1 b2)
    | .Or, x :: y :: z :: w, h =>
      have h : (chkE c a x && chkE c r (.BoolOp .Or (y :: z :: w) pos)) = true := h
      simp only [Bool.and_eq_true] at h
      obtain ⟨_, b1, b2, b3⟩ := hr X Z b dp c g _ h.2
      exact fin h.1 b1 (b3 _ _ _ rfl)
  | _ => exact Bool.noConfusion h
theorem l_ite {d a b : E} (hd : ME J k d) (ha : ME J k a) (hb : ME J k b) : ME J k (.ite d a b) := by
  intro X Z b dp c g e h
  cases e with
  | IfExp x y z pos =>
    have h : (chkE c d x && (chkE c a y && chkE c _ z)) = true := h
    simp only [Bool.and_eq_true] at h
    obtain ⟨_, d1, d2, _⟩ := hd X Z b dp c g x h.1
    obtain ⟨_, a1, a2, _⟩ := ha X Z b dp c g y h.2.1
    obtain ⟨_, b1, b2, _⟩ := hb X Z b dp c g z h.2.2
    exact mk2 (p_ite d2 a1 b1) (t_ite d2 a2 b2) rfl fun _ _ _ z => nomatch z
  | _ => exact Bool.noConfusion h
theorem l_tup {es : Es} (h1 : MEs J k es) : ME J k (.tup es) := by
  intro X Z b dp c g e h
  cases e with
  | Tuple xs x1 pos => exact mk1 (p_tup (h1 X Z b dp c g xs h).2) rfl rfl
  | _ => exact Bool.noConfusion h
theorem l_lst {kk : Bool} {es : Es} (h1 : MEs J k es) : ME J k (.lst kk es) := by
  intro X Z b dp c g e h
  cases e with
  | List xs pos => exact mk1 (p_lst (h1 X Z b dp c g xs h).2) rfl rfl
  | _ => exact Bool.noConfusion h
theorem l_dic {kk : Bool} {kvs : KVs} (h1 : MK J k kvs) : ME J k (.dic kk kvs) := by
  intro X Z b dp c g e h
  cases kvs with
  | nil =>
    cases e with
    | Dict keys values pos =>
      cases keys with
      | nil =>
        cases values with
        | nil => exact mk1 p_dic0 rfl rfl
        | cons _ _ => exact Bool.noConfusion h
      | cons k0 keys =>
        have h : (decide (keys.length + 1 ≤ 15) && chkK c .nil (k0 :: keys) values) = true := h
        simp [chkK] at h
    | _ => exact Bool.noConfusion h
  | cons a1 a2 a3 =>
    cases e with
    | Dict keys values pos =>
      cases keys with
      | nil => cases values <;> exact Bool.noConfusion h
      | cons k0 keys =>
        have h : (decide (keys.length + 1 ≤ 15) && chkK c (.cons a1 a2 a3) (k0 :: keys) values) = true := h
        simp only [Bool.and_eq_true, decide_eq_true_eq] at h
        obtain ⟨q1, q2, q3⟩ := h1 X Z b dp c g pos _ _ h.2
        exact mk1 (p_dic g.un q3 q1 q2 (by simp) (by simpa using h.1)) rfl rfl
    | _ => exact Bool.noConfusion h
theorem l_sub {a i : E} (ha : ME J k a) (hb : ME J k i) : ME J k (.sub a i) := by
  intro X Z b dp c g e h
  cases e with
  | Subscript x y pos =>
    have h : (plainIxB y && (chkE c a x && chkE c i y)) = true := h
    simp only [Bool.and_eq_true] at h
    exact mk1 (p_sub g.un (ha X Z b dp c g x h.2.1).2.1 (hb X Z b dp c g y h.2.2).2.1 (plainIxB_def h.1)) rfl rfl
  | _ => exact Bool.noConfusion h
theorem l_slc {a : E} {lo hi : Oe} (ha : ME J k a) (hl : MO J k lo) (hh : MO J k hi) : ME J k (.slc a lo hi) := by
  intro X Z b dp c g e h
  cases e with
  | Subscript x y pos =>
    match y, h with
    | .Slice l u none p2, h =>
      have h : (chkE c a x && (chkO c lo l && chkO c hi u)) = true := h
      simp only [Bool.and_eq_true] at h
      exact mk1 (p_slc (ha X Z b dp c g x h.1).2.1 (hl.1 X Z b dp c g l h.2.1) (hh.1 X Z b dp c g u h.2.2)) rfl rfl
  | _ => exact Bool.noConfusion h
theorem l_rev {a : E} (ha : ME J k a) : ME J k (.rev a) := by
  intro X Z b dp c g e h
  cases e with
  | Subscript x y pos =>
    match y, h with
    | .Slice none none (some (.UnaryOp .USub (.Constant (.int 1) kk p1) p2)) p3, h => exact mk1 (p_rev (ha X Z b dp c g x h).2.1) rfl rfl
  | _ => exact Bool.noConfusion h
end
end Cs
set_option Elab.async false
set_option linter.all false
set_option autoImplicit false
set_option maxRecDepth 100000
set_option maxHeartbeats 1000000
/-! min of a list of data. -/
namespace Cs
open PySem L2 PyProof.Rows
theorem sortOk_all {xs : List PyData} (h : sortOk xs = true) : PySem.W.AlikeAll xs ∧ xs.all (fine 60) = true := by
  unfold sortOk at h
  simp only [Bool.and_eq_true, Bool.or_eq_true] at h
  obtain ⟨⟨⟨h1, h2⟩, h3⟩, h4⟩ := h
  refine ⟨⟨fun x hx y hy => ?_, fun x hx e => ?_⟩, h2⟩
  · exact List.all_eq_true.mp (List.all_eq_true.mp h1 x hx) y hy
  · subst e
    rcases h3 with h3 | h3
    · exact absurd (List.all_eq_true.mp h3 _ hx) (by decide)
    · exact absurd (List.all_eq_true.mp h3 _ hx) (by decide)
theorem paired_at : ∀ {vs : List V} {its : List Value} {i : Nat} {u : Value}, Vals vs its → its[i]? = some u → ∃ v, vs[i]? = some v ∧ RelV v u
  | _, _, _, _, .nil, e => by simp at e
  | _, _, 0, _, .cons r _, e => by simp at e; subst e; exact ⟨_, rfl, r⟩
  | _, _, i + 1, _, .cons _ r, e => by
    obtain ⟨v, h1, h2⟩ := paired_at (i := i) r (by simpa using e)
    exact ⟨v, by simpa using h1, h2⟩
theorem DRs.at' {G : PySem.W.Frag} {w : World} {H : Hp} {C : Addr → Prop} : ∀ {vs : List V} {ds : List PyData} {i : Nat} {v : V}, DRs G w H C vs ds → vs[i]? = some v → DR G w H C v (ds.getD i .none)
  | _, _, _, _, .nil, e => by simp at e
  | _, _, 0, _, .cons r _, e => by simp at e; subst e; exact r
  | _, _, i + 1, _, .cons _ r, e => by
    have := DRs.at' (i := i) r (by simpa using e)
    simpa using this
section
variable {X : Cx} {b : Nat}
theorem b_min (hc : X.calm = true) (hu : X.A.units + 100 < cLine) : CallR X (.builtin "min") (bOp X b (bltD .min)) := by
  intro pins s σ H us uv Q I r ⟨f, M, xs, d, m, hb, tx, e, o⟩
  obtain ⟨x, rfl⟩ := one_arg (by intro h; cases h) e
  obtain ⟨v, rfl, tv⟩ := tx.one
  cases x with
  | list ds =>
    cases ds with
    | nil => exact absurd (show (none : Option PyData) = some d from e) (by simp)
    | cons y ys =>
      have e : (if sortOk (y :: ys) = true then some (ys.foldl (fun a z => if lt z a then z else a) y) else none) = some d := e
      by_cases hs : sortOk (y :: ys) = true
      · rw [if_pos hs] at e
        have e := Option.some.inj e
        subst e
        obtain ⟨a, vs, rfl, h1, h2⟩ := tv
        obtain ⟨u, rfl, ru⟩ := vals1 r
        cases ru
        obtain ⟨its, n, rv, hl, ho⟩ := rd_lst I h1
        obtain ⟨as, hr⟩ := DRs.reads I h2 rv
        obtain ⟨al, fi⟩ := sortOk_all hs
        have hd := (fines_ok 60 _ fi).2
        have hr' : ReadsAll s.heap its.toArray.toList (y :: ys) as := by simpa using hr
        have hn : its.toArray.size = ys.length + 1 := PySem.W.readsAll_len hr'
        refine call_min_walkH (PySem.W.iter_listW (A := X.A.in1) (I.ok.hd hc) ⟨_, ho, rfl, n, rfl⟩ fun s₂ e2 W st hfp hw hk => ?_)
        refine ⟨_, _, _, _, _, _, _, s.heap, _, rfl, W, st, hfp, by omega, hw, hk, PySem.W.cmpIn_lt (A := X.A.in1) hr' al (by show X.A.units + 1 + _ < _; omega), fun v' s' hP mv => ?_⟩
        obtain ⟨h', tk, rfl, hk'⟩ := PySem.W.moved_old e2 rfl mv
        have z1 : its.toArray.size - 1 = ys.length := by omega
        have z2 := (PySem.W.argBest_fold PySem.W.dataLt PyData.none y ys ys.length (Nat.le_refl _)).2
        rw [List.take_length] at z2
        rw [z1] at hP
        have hP : its.toArray[argBest (fun i j => PySem.W.dataLt ((y :: ys).getD i .none) ((y :: ys).getD j .none)) ys.length]? = some v' := hP
        rw [List.getElem?_toArray] at hP
        obtain ⟨u, g1, g2⟩ := paired_at rv hP
        have g3 := DRs.at' h2 g1
        rw [z2] at g3
        exact ⟨u, H, I.kept hk', g2, o.at m g3⟩
      · rw [if_neg hs] at e; exact absurd e (by simp)
  | _ => simp [bltD] at e
theorem p_min {Z : WX} {a : Expr} {es : List Expr} {rs : Sl → K (List Cs.W)} {p pos : Pos} (hc : X.calm = true) (hu : X.A.units + 100 < cLine) (hg : Gl X (bltName .min)) (hm : X.mg (bltName .min) = none) (ha : PA X (a :: es) (tRs X Z b rs))
    (he : starEach (a :: es) X.env = (false, eval a X.env) :: starEach es X.env) (hpl : (backTo pos (starEach es X.env)).any (·.1) = false) :
    PE X (.Call (.Name (bltName .min) p) (a :: es) [] pos) (tR X Z b fun σ => (rs σ).bnd fun ws => (rds ws).bnd fun xs => K.opt ((bltD .min xs).map W.d)) :=
  pe_to (pe_callB (b_min (b := b) hc hu) hg hm (by decide +kernel) ha (by decide) (by decide) he hpl) fun σ H Q h => bOp_of (tRs.then_ h)
end
end Cs
set_option Elab.async false
set_option linter.all false
set_option autoImplicit false
set_option maxRecDepth 100000
set_option maxHeartbeats 2000000
namespace Cs
open PySem L2 PyProof.Rows
section
variable {J : Info} {k : Nat}
theorem bl_mem {X : Cx} {Z : WX} {b dp : Nat} {c : CEnv} (g : Good X Z b J k dp c) {x : Str} (h : x ∈ blNames) : X.mg x = none := g.blt x h
theorem es_nil : MEs J k .nil := by
  intro X Z b dp c g es h
  cases es with
  | nil => exact ⟨rfl, a_nil⟩
  | cons _ _ => exact Bool.noConfusion h
theorem es_cons {e : E} {r : Es} (he : ME J k e) (hr : MEs J k r) : MEs J k (.cons e r) := by
  intro X Z b dp c g es h
  cases es with
  | nil => exact Bool.noConfusion h
  | cons x xs =>
    have h : (chkE c e x && chkEs c r xs) = true := h
    simp only [Bool.and_eq_true] at h
    obtain ⟨h1, h2, _⟩ := he X Z b dp c g x h.1
    obtain ⟨h3, h4⟩ := hr X Z b dp c g xs h.2
    exact ⟨by simp [h1, h3], a_cons h2 h4 (starB_def h1)⟩
theorem kv_nil : MK J k .nil := by
  intro X Z b dp c g pos keys values h
  cases keys with
  | nil =>
    cases values with
    | nil => exact ⟨rfl, rfl, k_nil⟩
    | cons _ _ => exact Bool.noConfusion h
  | cons _ _ => exact Bool.noConfusion h
theorem kv_cons {a v : E} {r : KVs} (ha : ME J k a) (hv : ME J k v) (hr : MK J k r) : MK J k (.cons a v r) := by
  intro X Z b dp c g pos keys values h
  cases keys with
  | nil => cases values <;> exact Bool.noConfusion h
  | cons k0 keys =>
    cases k0 with
    | none => cases values <;> exact Bool.noConfusion h
    | some x =>
      cases values with
      | nil => exact Bool.noConfusion h
      | cons y values =>
        have h : (chkE c a x && (chkE c v y && chkK c r keys values)) = true := h
        simp only [Bool.and_eq_true] at h
        obtain ⟨q1, q2, q3⟩ := hr X Z b dp c g pos keys values h.2.2
        exact ⟨by simp [q1], by simp [q2], k_cons (ha X Z b dp c g x h.1).2.1 (hv X Z b dp c g y h.2.1).2.1 q3⟩
theorem oe_no : MO J k .no := by
  refine ⟨fun X Z b dp c g e h => ?_, fun X Z b dp c g es h => ?_⟩
  · cases e with
    | none => exact o_no
    | some _ => exact Bool.noConfusion h
  · cases es with
    | nil => exact ⟨fun pins s σ H Q I ⟨f, σ', M, st, w⟩ => pts_nil.run pins s σ H Q I (w f H .refl st.mem)⟩
    | cons _ _ => exact Bool.noConfusion h
theorem oe_yes {e : E} (he : ME J k e) : MO J k (.yes e) := by
  refine ⟨fun X Z b dp c g x h => ?_, fun X Z b dp c g es h => ?_⟩
  · cases x with
    | none => exact Bool.noConfusion h
    | some x => exact o_yes (he X Z b dp c g x h).2.1
  · match es, h with
    | [x], h => exact pts_one (he X Z b dp c g x h).2.2.1
theorem l_call {f : Str} {es : Es} (h1 : MEs J k es) : ME J k (.call f es) := by
  intro X Z b dp c g e h
  cases e with
  | Call fn xs kw pos =>
    match fn, kw, h with
    | .Name n p, [], h =>
      have h : ((f == n) && (glB c.sc n && (c.fs.contains n && (nmB n && chkEs c es xs)))) = true := h
      simp only [Bool.and_eq_true, nmB, Bool.not_eq_true'] at h
      obtain ⟨q1, q2, q3, ⟨q4, _⟩, q5⟩ := h
      have := eq_of_beq q1
      subst this
      have F := g.fns f (by simpa using q3)
      have hg : Gl X f := glB_def (by rw [g.sc]; exact q2)
      obtain ⟨s1, s2⟩ := h1 X Z b dp c g xs q5
      cases xs with
      | nil =>
        cases es with
        | nil => exact mk1 (p_fn0 F g.room g.tk hg q4) rfl rfl
        | cons _ _ => exact Bool.noConfusion q5
      | cons x xs =>
        simp only [List.all_cons, Bool.and_eq_true] at s1
        exact mk1 (p_fn F g.room g.tk hg s2 q4 (starB_def s1.1) (plain_any s1.2)) rfl rfl
  | _ => exact Bool.noConfusion h
theorem l_isi {t : Ty} {a : E} (ha : ME J k a) : ME J k (.isi t a) := by
  intro X Z b dp c g e h
  cases e with
  | Call fn xs kw pos =>
    match fn, xs, kw, h with
    | .Name n p, [x, .Name m p2], [], h =>
      have h : ((n == ("isinstance" : Str)) && (glB c.sc n && ((m == Str.ofString (tyName t)) && (glB c.sc m && chkE c a x)))) = true := h
      simp only [Bool.and_eq_true] at h
      obtain ⟨q1, q2, q3, q4, q5⟩ := h
      have := eq_of_beq q1
      subst this
      have := eq_of_beq q3
      subst this
      obtain ⟨t1, t2, t3⟩ := tyName_boot t
      obtain ⟨s1, s2, _⟩ := ha X Z b dp c g x q5
      exact mk1 (p_isi (glB_def (by rw [g.sc]; exact q2)) (bl_mem g (by decide)) (glB_def (by rw [g.sc]; exact q4)) (bl_mem g (by cases t <;> decide)) t1 t2 t3 s2 (starB_def s1)) rfl rfl
  | _ => exact Bool.noConfusion h
theorem l_blt {f : Bl} {es : Es} (h1 : MEs J k es) : ME J k (.blt f es) := by
  intro X Z b dp c g e h
  cases es with
  | nil =>
    exfalso
    revert h
    cases e with
    | Call fn xs kw pos => cases fn <;> first | exact fun h => Bool.noConfusion h | (cases xs <;> cases kw <;> exact fun h => Bool.noConfusion h)
    | _ => exact fun h => Bool.noConfusion h
  | cons e0 es =>
    cases e with
    | Call fn xs kw pos =>
      match fn, xs, kw, h with
      | .Name n p, x :: xs, [], h =>
        have h : ((n == bltName f) && (bltHere2 f && (glB c.sc n && (chkE c e0 x && chkEs c es xs)))) = true := h
        simp only [Bool.and_eq_true] at h
        obtain ⟨q1, q2, q3, q4, q5⟩ := h
        have := eq_of_beq q1
        subst this
        obtain ⟨s1, s2⟩ := h1 X Z b dp c g (x :: xs) (by show (chkE c e0 x && chkEs c es xs) = true; simp [q4, q5])
        simp only [List.all_cons, Bool.and_eq_true] at s1
        by_cases hd : bltHere f = true
        · exact mk1 (p_blt hd g.calm g.un (glB_def (by rw [g.sc]; exact q3)) (bl_mem g (by cases f <;> decide)) s2 (starB_def s1.1) (plain_any s1.2)) rfl rfl
        · by_cases hx : f = .max
          · subst hx
            exact mk1 (p_max g.calm (glB_def (by rw [g.sc]; exact q3)) (bl_mem g (by decide)) s2 (starB_def s1.1) (plain_any s1.2)) rfl rfl
          · by_cases hy : f = .min
            · subst hy
              exact mk1 (p_min g.calm g.un (glB_def (by rw [g.sc]; exact q3)) (bl_mem g (by decide)) s2 (starB_def s1.1) (plain_any s1.2)) rfl rfl
            obtain rfl : f = .dict := by cases f <;> first | rfl | exact absurd rfl hd | exact absurd rfl hx | exact absurd rfl hy | exact absurd q2 (by decide)
            exact mk1 (p_dict g.calm g.un (glB_def (by rw [g.sc]; exact q3)) (bl_mem g (by decide)) s2 (starB_def s1.1) (plain_any s1.2)) rfl rfl
    | _ => exact Bool.noConfusion h
theorem l_sset {a : E} (ha : ME J k a) : ME J k (.sset a) := by
  intro X Z b dp c g e h
  cases e with
  | Call fn xs kw pos =>
    match fn, xs, kw, h with
    | .Name n p, [.Call (.Name m p2) [x] [] q], [], h =>
      have h : ((n == ("sorted" : Str)) && (glB c.sc n && ((m == ("set" : Str)) && (glB c.sc m && chkE c a x)))) = true := h
      simp only [Bool.and_eq_true] at h
      obtain ⟨q1, q2, q3, q4, q5⟩ := h
      have := eq_of_beq q1
      subst this
      have := eq_of_beq q3
      subst this
      obtain ⟨s1, s2, _⟩ := ha X Z b dp c g x q5
      exact mk1 (p_sset g.calm g.un (glB_def (by rw [g.sc]; exact q2)) (bl_mem g (by decide)) (glB_def (by rw [g.sc]; exact q4)) (bl_mem g (by decide)) s2 (starB_def s1)) rfl rfl
  | _ => exact Bool.noConfusion h
theorem l_lset {a : E} (ha : ME J k a) : ME J k (.lset a) := by
  intro X Z b dp c g e h
  cases e with
  | Call fn xs kw pos =>
    match fn, xs, kw, h with
    | .Name n p, [.Call (.Name m p2) [x] [] q], [], h =>
      have h : ((n == ("len" : Str)) && (glB c.sc n && ((m == ("set" : Str)) && (glB c.sc m && chkE c a x)))) = true := h
      simp only [Bool.and_eq_true] at h
      obtain ⟨q1, q2, q3, q4, q5⟩ := h
      have := eq_of_beq q1
      subst this
      have := eq_of_beq q3
      subst this
      obtain ⟨s1, s2, _⟩ := ha X Z b dp c g x q5
      exact mk1 (p_lset g.calm g.un (glB_def (by rw [g.sc]; exact q2)) (bl_mem g (by decide)) (glB_def (by rw [g.sc]; exact q4)) (bl_mem g (by decide)) s2 (starB_def s1)) rfl rfl
  | _ => exact Bool.noConfusion h
end
end Cs
set_option Elab.async false
set_option linter.all false
set_option autoImplicit false
set_option maxRecDepth 100000
set_option maxHeartbeats 2000000
/-! A helper that calls what it got: a text for each kind of error, one for none. -/
namespace Cs
open PySem L2 PyProof.Rows LamX
/-! ### the memory when a lambda is made -/
def lamObj (q : Str) : Obj := ⟨.none, none, .fields #[.none, .str q default], #[]⟩
def lamHeap (c : Addr) (q : Str) : Heap := ⟨(Array.replicate c ⟨.none, none, .plain, #[]⟩).push (lamObj q), {}⟩
theorem lamHeap_get (c : Addr) (q : Str) : (lamHeap c q).get? c = some (lamObj q) := by
  have h : (lamHeap c q).objs[c]? = some (lamObj q) := by
    show ((Array.replicate c _).push (lamObj q))[c]? = _
    rw [Array.getElem?_push]
    rw [if_pos (by simp)]
  unfold Heap.get?
  rw [h]
  rfl
theorem code_dict {c : Addr} {q : Str} {es : List DictEntry} {ep : Nat} (e : dO c es ep = CodeO c q) : False := by
  unfold dO CodeO at e
  have e' := HO.ext.inj e
  have z : (∃ (oc : Obj) (vs : Array Value) (t : Tok), (lamHeap c q).get? c = some oc ∧ oc.data = .fields vs ∧ vs[1]? = some (.str q t)) := ⟨_, _, _, lamHeap_get c q, rfl, rfl⟩
  have z' : (lamHeap c q).DictRaw c es.toArray ep := by
    have := congrFun e' (lamHeap c q)
    rw [this]; exact z
  obtain ⟨o, h1, _, h3⟩ := z'
  rw [lamHeap_get] at h1
  cases h1
  cases h3
theorem code_err {c C : Addr} {t d : Option Addr} {q : Str} (e : xcO c C t d = CodeO c q) : False := by
  unfold xcO CodeO at e
  have e' := HO.ext.inj e
  have z : (∃ (oc : Obj) (vs : Array Value) (t : Tok), (lamHeap c q).get? c = some oc ∧ oc.data = .fields vs ∧ vs[1]? = some (.str q t)) := ⟨_, _, _, lamHeap_get c q, rfl, rfl⟩
  have z' : ∃ (o : Obj) (vs : Array Value), (lamHeap c q).get? c = some o ∧ o.cls = .ref C ∧ o.dict = d ∧ o.data = .fields vs ∧ ∀ b, t = some b → vs[0]? = some (.ref b) := by
    have := congrFun e' (lamHeap c q)
    rw [this]; exact z
  obtain ⟨o, vs, h1, h2, _⟩ := z'
  rw [lamHeap_get] at h1
  cases h1
  cases h2
theorem MemOk.lamMade {K : PySem.W.Frag} {w : World} {f : Fm} {M : Mem} {H H1 : Hp} {b : Nat} {T : List (Addr × Str)} (m : MemOk K w f M H) (x : ExtN H H1) (t : Tabs T H1) (hT : ∀ P q, f.tn P = some q → (P, q) ∈ T) : MemOk K w f M H1 ∧ Ext b f M H f M H1 := by
  have st : Stay H H1 (isC f M) (isC f M) := fun a o e n c => ⟨x a o e n, c⟩
  have mv : Mv f M H f M H1 := ⟨Nat.le_refl _, fun _ _ => rfl, st⟩
  have notC : ∀ c q, H1 c = some (CodeO c q) → ¬ isC f M c := fun c q e hc => by
    rcases hc with ⟨n, hn, en⟩ | hh
    · have hcell := m.cell n _ (List.getElem?_eq_getElem hn)
      cases hM : M[n] with
      | lst ws =>
        rw [hM] at hcell
        obtain ⟨vs, e2, _⟩ := hcell
        have := x _ _ e2 (fun ps z => by cases z)
        rw [en, e] at this
        unfold CodeO at this
        cases this
      | dic kvs =>
        rw [hM] at hcell
        obtain ⟨_, es, ep, e2, _⟩ := hcell
        have := x _ _ e2 (noT_d _ _ _)
        rw [en, e] at this
        exact code_dict (Option.some.inj this).symm
      | obj o =>
        rw [hM] at hcell
        rcases hcell with ⟨_, _, dx, vs, e2, _⟩ | ⟨_, t, d, e2, _⟩
        · have := x _ _ e2 (fun ps z => by cases z)
          rw [en, e] at this
          unfold CodeO at this
          cases this
        · have := x _ _ e2 (noT_ext _)
          rw [en, e] at this
          exact code_err (Option.some.inj this).symm
    · obtain ⟨o, e2, ho⟩ := m.hidL c hh
      have := x _ _ e2 (isHid_noT ho)
      rw [e] at this
      have z := Option.some.inj this
      subst z
      unfold CodeO at ho
      exact ho
  refine ⟨⟨fun n c e => ?_, m.inj, m.vis, fun a ha => ?_, fun P q h => ?_, m.own⟩, ⟨Nat.le_refl _, fun _ _ => rfl, fun a o e t _ => x a o e t, fun n h1 h2 => absurd h2 (by omega), fun _ _ h => h, fun _ h => h, fun _ h => .inl h, rfl⟩⟩
  · have hn : n < M.length := (List.getElem?_eq_some_iff.mp e).1
    obtain ⟨u, q, t⟩ := m.kind hn
    exact (m.cell n c e).mv mv (by rw [x _ _ q t, q])
  · obtain ⟨o, e, ho⟩ := m.hidL a ha
    exact ⟨o, x _ _ e (isHid_noT ho), ho⟩
  · obtain ⟨ps, e1, e2, e3⟩ := t (P, q) (hT P q h)
    refine ⟨ps, e1, e2, fun pos cv hc => ?_⟩
    obtain ⟨c, z1, z2⟩ := e3 pos cv hc
    exact ⟨c, z1, z2, notC c q z2⟩
/-! ### the helper -/
/-- what the helper makes of the lambda's reading -/
def TWord (K : PySem.W.Frag) (L : List (Value × (Addr → Value → Option Addr → TS))) (fine : Str) : (XK → Hp → VK → Prop) → Hp → VK → Prop := fun tl H Q =>
  tl (fun cls d H' => ∀ (D : Ends) (σ' : L2.St), D.rt = Q → wMany K (fun _ _ _ _ => False) D L cls d σ' H') H (fun _ H' => Q (.str fine) H')
theorem word_gives {X : Cx} {Ng : List Str} {x a q fine : Str} {sg : Scope} {g : Addr} {cdg : Value} {h₀ : ExceptHandler} {hds : List ExceptHandler} {L : List (Value × (Addr → Value → Option Addr → TS))} {j : Nat} {p1 p2 p3 p5 p6 p8 : Pos}
    (hh : ∀ (s : Shared) (H : Hp), HdsOk (cxOf C8.CX0 X.prog X.w X.K X.mg X.base Ng x sg g cdg X.A X.stack s H C8.E0).nox (h₀ :: hds) L) (h0 : ∀ f : Addr, (L2.start Ng [V.ref f])[0]? = some (some (V.ref f))) :
    GivesTo X Ng x sg g cdg [.Try [.Expr (.Call (.Name a p1) [] [] p2) p3] (h₀ :: hds) [] [] p8, .Return (some (.Constant (.str fine) j p5)) p6] a q (TWord X.K L fine) := by
  intro f c' s H Q tl act hc h
  refine ⟨_, pss_cons (ps_try_many (X := (cxOf C8.CX0 X.prog X.w X.K X.mg X.base Ng x sg g cdg X.A X.stack s H C8.E0).nox) (Wout := fun _ _ _ _ => False)
      (tb := fun W D σ H => ∃ Ech : XK, (∀ cls d σ' H', Ech cls d H' → W cls d σ' H') ∧ σ[0]? = some (some (.ref f)) ∧ H c' = some (CodeO c' q) ∧ tl Ech H (fun _ H' => D.nx σ H'))
      rfl rfl LamX.takes0 (fun W pn xe tk _ => ?_) (hh s H)) (pss_one (ps_ret pe_str)), ?_⟩
  · refine ⟨fun pins s' σ H' D I h' => ?_⟩
    obtain ⟨Ech, hW, h1, h2, h3⟩ := h'
    have hp := act W pn xe Ech p1 p2 tk hW
    have hq := pss_one (ps_expr (pos := p3) hp)
    exact hq.run pins s' σ H' D I ⟨h1, h2, h3⟩
  · exact ⟨fun cls d H' => ∀ (D : Ends) (σ' : L2.St), D.rt = Q → wMany X.K (fun _ _ _ _ => False) D L cls d σ' H', fun cls d σ' H' z => z _ σ' rfl, h0 f, hc, h⟩
def wL (l : List (Value × Str)) : List (Value × (Addr → Value → Option Addr → TS)) := l.map fun p => (p.1, fun _ _ _ => fun D _ H => D.rt (.str p.2) H)
theorem HW.ok {X : Cx} : ∀ {hds : List ExceptHandler} {l : List (Value × Str)}, HW X.mg X.env.scope hds l → HdsOk X hds (wL l)
  | _, _, .nil => .nil
  | _, _, .cons h1 h2 h3 r => .cons ⟨h1, h2, .inl h3⟩ (fun a oe cls d pn _ _ => pss_one (ps_ret pe_str)) (HW.ok r)
theorem pick_ok {K : PySem.W.Frag} {Z : WX} {D : Ends} {cls : Value} {d : Option Addr} {σ : L2.St} {H : Hp} {t : Str} : ∀ {l : List (Value × Str)}, pick K cls l = some t → D.rt (.str t) H → wMany K Z D (wL l) cls d σ H
  | [], h, _ => by cases h
  | (c, t') :: r, h, q => by
    unfold pick at h
    show ∃ b, PySem.W.exmOne K cls c = some b ∧ _ ∧ _
    cases e : PySem.W.exmOne K cls c with
    | none => rw [e] at h; cases h
    | some b =>
      rw [e] at h
      cases b with
      | true =>
        cases h
        exact ⟨true, rfl, fun _ _ _ => q, fun z => by cases z⟩
      | false => exact ⟨false, rfl, fun z => (by cases z), fun _ => pick_ok h q⟩
/-! ### the lambda -/
theorem Good.lamCx {X : Cx} {Z : WX} {b : Nat} {J : Info} {k dp : Nat} {c : CEnv} (g : Good X Z b J k dp c) {scope : Scope} (A : Around) (outer : List Env) (s : Shared) (H : Hp) (E : XK) (f c' : Addr) (hr : Room dp (A.deeper (lamEnv X scope s.heap.objs.size f c'))) :
    Good (LamX.lamCx X A outer s H E scope f c') (fun cls d _ H => E cls d H) b J k dp (c.lam scope) := by
  refine ⟨rfl, g.nd, ?_, takes_of rfl rfl rfl rfl, g.N, rfl, fun x h => ?_, g.blt, g.glob, g.tups, g.fns, hr, fun z => Bool.noConfusion z, g.dp2, g.cls.at_ rfl rfl rfl rfl rfl⟩
  · have := hr.un
    show (A.deeper _).units + 100 < cLine
    omega
  · have h : (match List.lookup x ([] : List (Str × NameKind)) with | some .local => true | some .cell => true | _ => false) = true := h
    cases h
theorem l_word {J : Info} {k : Nat} {f : Str} {tb : List (Str × Str)} {fine : Str} {a : E} (ha : ME J k a) : ME J k (.word f tb fine a) := by
  intro X Z b dp c g e h
  cases e with
  | Call fn xs kw pos =>
    match fn, xs, kw, h with
    | .Name n p, [.Lambda params body scope lp], [], h =>
      have h : ((f == n) && (c.w && (glB c.sc n && (nmB n && (decide (c.ws.lookup n = some (tb, fine)) && (LamX.lamSB c.sc scope && (noPar params && chkE (c.lam scope) a body))))))) = true := h
      simp only [Bool.and_eq_true, nmB, Bool.not_eq_true', decide_eq_true_eq] at h
      obtain ⟨q1, q2, q3, ⟨q4, _⟩, q5, q6, q7, q8⟩ := h
      have := eq_of_beq q1
      subst this
      have hpar := noPar_def q7
      subst hpar
      obtain ⟨room, ⟨cA, P, TB, hcode, htn⟩, hp⟩ := g.lam q2
      obtain ⟨ga, pg, bg, sg, dV, kV, doc, pm, cdv, ct, oc, an, od, osl, Ng, an', h₀, hds, l, j, p1, p2, p3, p5, p6, p8, w1, w2, w3, w4, w5, w6, w7, w8, w9, w10, w11, w12, w13⟩ := hp f tb fine q5
      subst w11
      have hu : ∀ P' q', tnK X.K P' = some q' → (P', q') ∈ [(P, X.env.qual ++ "<lambda>")] := fun P' q' h' => by
        have e1 := htn
        unfold tnK at e1 h'
        split at e1
        · rename_i z1
          split at h'
          · rename_i z2
            rw [← Option.some.inj e1, ← Option.some.inj h', z1, z2]
            exact List.mem_singleton.mpr rfl
          · cases h'
        · cases e1
      have hG := word_gives (X := X) (Ng := Ng) (x := f) (a := an') (q := X.env.qual ++ "<lambda>") (fine := fine) (sg := sg) (g := ga) (cdg := cdv) (h₀ := h₀) (hds := hds) (L := wL l) (j := j) (p1 := p1) (p2 := p2) (p3 := p3) (p5 := p5) (p6 := p6) (p8 := p8) (fun s H => HW.ok w12) (fun f => by
        show (L2.start Ng [V.ref f])[0]? = _
        have hl : Ng ≠ [] := fun z => by rw [z] at w7; cases w7
        rw [L2.start]; rfl)
      have main := pe_lamcall (T := [(P, X.env.qual ++ "<lambda>")]) (TT := TWord X.K (wL l) fine) (k := dp) (t := fun E => tR X (fun cls d _ H => E cls d H) b fun σ => ev (ora b J k) σ a) (p := p) (lpos := lp) (pos := pos)
        (glB_def (by rw [g.sc]; exact q3)) w1 w2 w3 w4 w5 w6 w7 w8 hG TB hcode (List.mem_singleton.mpr rfl) (fun p hp _ => by rw [List.mem_singleton.mp hp]) room (lamS_by (by rw [g.sc]; exact q6)) (params := ⟨[], [], none, [], [], none, []⟩) rfl (fun q cl pm cv ctv => rfl)
        (body := body) (fun A outer s H E f c' hr2 => pe_to (ha _ _ b dp _ (g.lamCx A outer s H E f c' hr2) body q8).2.1 fun σ H Q ⟨f, σ', M, ⟨m, hb, sl⟩, h⟩ => ⟨f, σ', M, ⟨m, hb, sl⟩, h⟩) q4 w9 w10
      refine mk1 (pe_to main fun σV H Q ⟨fm, σ', M, st, h⟩ => ?_) rfl rfl
      have hT : ∀ P' q', fm.tn P' = some q' → (P', q') ∈ [(P, X.env.qual ++ "<lambda>")] := fun P' q' h' => hu P' q' (by rw [← st.mem.own]; exact h')
      refine ⟨fun p hp => ?_, fun H1 eN T1 => ?_⟩
      · rw [List.mem_singleton.mp hp]
        obtain ⟨ps, e1, e2, e3⟩ := st.mem.tab P _ (by rw [st.mem.own]; exact htn)
        exact ⟨ps, e1, e2, fun pos cv hc => by
          obtain ⟨c0, z1, z2, _⟩ := e3 pos cv hc
          exact ⟨c0, z1, z2⟩⟩
      · obtain ⟨m1, x1⟩ := st.mem.lamMade (b := b) eN T1 hT
        refine ⟨fm, σ', M, st.ext x1 m1, ?_⟩
        have h : Then X.K X.w b fm M H (wordK tb fine (ev (ora b J k) σ' a) M) (fun y f' M' H' => ∀ v, RW X.K X.w f' M' H' v y → Q v H') (erW X Z σV) := h
        unfold wordK at h
        dsimp only
        cases hr : ev (ora b J k) σ' a M with
        | no => rw [hr] at h; exact h.elim
        | ok y M' =>
          rw [hr] at h
          exact fun f' H' x' m' v _ => h f' H' (x1.trans m1 x') m' (.str fine) (DR.str fine)
        | exc e M' =>
          rw [hr] at h
          dsimp only at h
          cases ht : tb.lookup e.cls with
          | none => rw [ht] at h; exact h.elim
          | some t =>
            rw [ht] at h
            intro f' H' x' m' cls d hx D σ2 hD
            obtain ⟨ca, c1, c2, _⟩ := hx
            subst c2
            refine pick_ok (w13 _ _ ht ca c1) ?_
            rw [hD]
            exact h f' H' (x1.trans m1 x') m' (.str t) (DR.str t)
  | _ => exact Bool.noConfusion h
end Cs
set_option Elab.async false
set_option linter.all false
set_option autoImplicit false
set_option maxRecDepth 100000
set_option maxHeartbeats 2000000
namespace Cs
open PySem L2 PyProof.Rows
section
variable {J : Info} {k : Nat}
theorem plain_all : ∀ {es : List Expr} {pos : Pos} {env : Env}, es.all starB = true → (backTo pos (starEach es env)).all (fun x => !x.1) = true
  | [], _, _, _ => rfl
  | e :: es, pos, env, h => by
    rw [List.all_cons, Bool.and_eq_true] at h
    rw [starB_def h.1]
    show (!false && (backTo pos (starEach es env)).all (fun x => !x.1)) = true
    rw [plain_all h.2]; rfl
theorem few_of {es : List Expr} {pos : Pos} {env : Env} (h : es.all starB = true) (hl : es.length < 30) : ((backTo pos (starEach es env)).all (fun x => !x.1) && (backToKw pos (keywordEach [] env)).all (fun x => x.1.isSome)
      && decide (es.length + ([] : List Keyword).length + (if ([] : List Keyword).isEmpty then 0 else 1) < 30)) = true := by
  rw [plain_all h]
  have : (backToKw pos (keywordEach [] env)).all (fun x => x.1.isSome) = true := rfl
  rw [this]
  simp
  exact hl
theorem evalArgs_of {M : Model} {A : Around} {E : Value → Shared → Prop} {s : Shared} {f : Value} {es : List Expr} {pos : Pos} {env : Env} {Q : Args → Shared → Prop} (h : es.all starB = true)
    (w : wpAny M A (spliced (backTo pos (starEach es env))) (fun vs s' => Q ⟨vs, []⟩ s') E s) : wpAny M A (evalArgs f true (backTo pos (starEach es env)) []) Q E s := by
  cases es with
  | nil =>
    unfold evalArgs
    show wpAny M A (spliced [] >>= _) Q E s
    refine wpAny_bind (wpAny_mono w (fun vs s' h' => ?_) fun _ _ x => x)
    refine wpAny_holding ?_
    exact wpAny_bind (wpAny_pure (wpAny_bind (wpAny_pure (wpAny_pure h'))))
  | cons e es =>
    rw [List.all_cons, Bool.and_eq_true] at h
    rw [starB_def h.1] at w ⊢
    exact Calls.evalArgs_plain w
theorem l_meth {m : Mt} {o : E} {es : Es} (ho : ME J k o) (h1 : MEs J k es) : ME J k (.meth m o es) := by
  intro X Z b dp c g e h
  cases e with
  | Call fn xs kw pos =>
    match fn, kw, h with
    | .Attribute x n apos, [], h =>
      have h : ((n == mtName m) && (mtHere m && (baseB x && ((apos.endLine == pos.line) && (decide (xs.length < 30) && (chkE c o x && chkEs c es xs)))))) = true := h
      simp only [Bool.and_eq_true, decide_eq_true_eq] at h
      obtain ⟨q1, q2, q3, q4, q5, q6, q7⟩ := h
      have := eq_of_beq q1
      subst this
      obtain ⟨s1, s2⟩ := h1 X Z b dp c g xs q7
      exact mk1 (p_meth q2 g.un (ho X Z b dp c g x q6).2.1 s2 (baseB_def q3) (few_of s1 q5) q4 (plain_any s1) fun id Q E s w => evalArgs_of s1 w) rfl rfl
  | _ => exact Bool.noConfusion h
/-- a tuple of the module: where an item stands -/
theorem p_gix {X : Cx} {Z : WX} {b : Nat} {x : Str} {ds : List PyData} {ra : Sl → K Cs.W} {e : Expr} {p apos pos : Pos} (hu : X.A.units + 100 < cLine) (hg : Gl X x) (T : GTup X x ds) (hd : (x == ("__debug__" : Str)) = false) (ha : PE X e (tR X Z b ra)) (hs : starB e = true) (hline : (apos.endLine == pos.line) = true) :
    PE X (.Call (.Attribute (.Name x p) "index" apos) [e] [] pos) (tR X Z b fun σ => (ra σ).bnd fun w => methW b .index (.d (.tuple ds)) [w]) := by
  obtain ⟨a, o, h1, h2, h3, h4, h5⟩ := T
  refine ⟨fun pins s σ H Q I ⟨f, σ', M, st, h⟩ => ?_⟩
  have hall : [e].all starB = true := by simp [hs]
  refine wpAny_Call_method_late (o := .Name x p) rfl (few_of hall (by show 1 < 30; decide)) hline rfl (ld_glob I hg h1 ?_ hd)
  have ho := I.kIn _ o h2
  refine ⟨"tuple", "tuple.index", PySem.F.plainAttrs_tuple, PySem.F.slot_tuple_index, PySem.F.type_tuple_index, ⟨o, ho, h3⟩, fun a' e' => by cases e'; exact ⟨o, ho, h4⟩, ?_⟩
  refine Calls.callWith_builtin (plain_any hall) (evalArgs_of hall ?_)
  rw [starB_def hs]
  show wpAny _ _ (spliced ((false, eval e X.env) :: [])) _ _ s
  refine Calls.spliced_cons (thn (ha.run pins s σ H (fun v H1 => ∃ f1 M1 y, MemOk X.K X.w f1 M1 H1 ∧ b ≤ M1.length ∧ RW X.K X.w f1 M1 H1 v y ∧ Then X.K X.w b f1 M1 H1 (methW b .index (.d (.tuple ds)) [y] M1) (fun z f' M' H' => ∀ v, RW X.K X.w f' M' H' v z → Q v H') (erW X Z σ)) I
    ⟨f, σ', M, st, h.bnd.imp (fun y f1 M1 H1 x1 m1 h1 v rv => ⟨f1, M1, y, m1, Nat.le_trans st.base x1.len, rv, h1⟩) fun _ _ _ _ _ _ z => z⟩) fun u s1 ⟨v, H1, I1, rv, f1, M1, y, m1, hb, ry, hh⟩ => Calls.spliced_nil ?_)
  have := m_index (Z := Z) (b := b) (σV := σ) hu (T := "tuple") pins s1 σ H1 (.ref a) [v] (.ref a) [u] Q I1 rfl (.cons rv .nil) ⟨f1, M1, .d (.tuple ds), [y], m1, hb, h5 H1 _, ⟨ry, trivial⟩, hh⟩ ⟨o, I1.kIn _ o h2, h3⟩ (.inr rfl)
  exact this
theorem l_gix {x : Str} {a : E} (ha : ME J k a) : ME J k (.gix x a) := by
  intro X Z b dp c g e h
  cases e with
  | Call fn xs kw pos =>
    match fn, xs, kw, h with
    | .Attribute (.Name y p) n apos, [z], [], h =>
      have h : ((x == y) && (glB c.sc y && (c.ts.contains y && (nmB y && ((n == ("index" : Str)) && ((apos.endLine == pos.line) && chkE c a z)))))) = true := h
      simp only [Bool.and_eq_true, nmB, Bool.not_eq_true'] at h
      obtain ⟨q1, q2, q3, ⟨q4, _⟩, q5, q6, q7⟩ := h
      have := eq_of_beq q1
      subst this
      have := eq_of_beq q5
      subst this
      obtain ⟨ds, t1, t2⟩ := g.tups x (by simpa using q3)
      obtain ⟨s1, s2, _⟩ := ha X Z b dp c g z q7
      have q := p_gix (p := p) (apos := apos) (pos := pos) g.un (glB_def (by rw [g.sc]; exact q2)) t2 q4 s2 s1 q6
      refine mk1 (pe_to q fun σ H Q ⟨f, σ', M, st, w⟩ => ⟨f, σ', M, st, ?_⟩) rfl rfl
      have e2 : ev (ora b J k) σ' (.gix x a) = (ev (ora b J k) σ' a).bnd fun w => methW b .index (.d (.tuple ds)) [w] := by
        show ((ev (ora b J k) σ' a).bnd fun w => (K.opt (J.glob x)).bnd fun d => methW b .index (.d d) [w]) = _
        rw [t1]; rfl
      dsimp only at w ⊢
      rw [e2] at w
      exact w
  | _ => exact Bool.noConfusion h
/-! ### walks -/
theorem i_of {a : E} (ha : ME J k a) : MI J k (.of a) := by
  intro X Z b dp c g tg e h
  have h : chkE c a e = true := by cases tg <;> exact h
  exact pi_of (ha X Z b dp c g e h).2.1
theorem i_rng {es : Es} (h1 : MEs J k es) : MI J k (.rng es) := by
  intro X Z b dp c g tg e h
  cases e with
  | Call fn xs kw pos =>
    match fn, kw, h with
    | .Name n p, [], h =>
      have h : ((n == ("range" : Str)) && (glB c.sc n && (decide (xs.length = 1 ∨ xs.length = 2) && chkEs c es xs))) = true := by cases tg <;> exact h
      simp only [Bool.and_eq_true, decide_eq_true_eq] at h
      obtain ⟨q1, q2, q3, q4⟩ := h
      have := eq_of_beq q1
      subst this
      obtain ⟨s1, s2⟩ := h1 X Z b dp c g xs q4
      refine pi_rng (glB_def (by rw [g.sc]; exact q2)) (bl_mem g (by decide)) s2 ?_ fun a r hm => starB_def (List.all_eq_true.mp s1 a hm)
      rcases q3 with q | q
      · match xs, q with
        | [a], _ => exact .inl ⟨a, rfl⟩
      · match xs, q with
        | [a, c], _ => exact .inr ⟨a, c, rfl⟩
    | .Name _ _, _ :: _, h => cases tg <;> exact Bool.noConfusion h
    | .Attribute _ _ _, [], h => cases tg <;> exact Bool.noConfusion h
  | _ => cases tg <;> exact Bool.noConfusion h
theorem i_zip {es : Es} (h1 : MEs J k es) : MI J k (.zip es) := by
  intro X Z b dp c g tg e h
  cases tg with
  | Tuple elts kk tpos =>
    cases e with
    | Call fn xs kw pos =>
      match fn, xs, kw, h with
      | .Name n p, [x, y], [], h =>
        have h : ((n == ("zip" : Str)) && (glB c.sc n && chkEs c es [x, y])) = true := h
        simp only [Bool.and_eq_true] at h
        obtain ⟨q1, q2, q4⟩ := h
        have := eq_of_beq q1
        subst this
        obtain ⟨s1, s2⟩ := h1 X Z b dp c g _ q4
        exact pi_zipc (glB_def (by rw [g.sc]; exact q2)) (bl_mem g (by decide)) s2 fun a r hm => starB_def (List.all_eq_true.mp s1 a hm)
    | _ => exact Bool.noConfusion h
  | _ => cases e <;> exact Bool.noConfusion h
theorem i_enu {es : Es} (h1 : MEs J k es) : MI J k (.enu es) := by
  intro X Z b dp c g tg e h
  cases tg with
  | Tuple elts kk tpos =>
    cases e with
    | Call fn xs kw pos =>
      match fn, xs, kw, h with
      | .Name n p, [x], [], h =>
        have h : ((n == ("enumerate" : Str)) && (glB c.sc n && chkEs c es [x])) = true := h
        simp only [Bool.and_eq_true] at h
        obtain ⟨q1, q2, q4⟩ := h
        have := eq_of_beq q1
        subst this
        obtain ⟨s1, s2⟩ := h1 X Z b dp c g _ q4
        exact pi_enumc (glB_def (by rw [g.sc]; exact q2)) (bl_mem g (by decide)) s2 fun a r hm => starB_def (List.all_eq_true.mp s1 a hm)
    | _ => exact Bool.noConfusion h
  | _ => cases e <;> exact Bool.noConfusion h
theorem i_vals {a : E} (ha : ME J k a) : MI J k (.vals a) := by
  intro X Z b dp c g tg e h
  cases e with
  | Call fn xs kw pos =>
    match fn, xs, kw, h with
    | .Attribute x n apos, [], [], h =>
      have h : ((n == ("values" : Str)) && (baseB x && ((apos.endLine == pos.line) && chkE c a x))) = true := by cases tg <;> exact h
      simp only [Bool.and_eq_true] at h
      obtain ⟨q1, q2, q3, q4⟩ := h
      have := eq_of_beq q1
      subst this
      exact pi_valsc (ha X Z b dp c g x q4).2.1 (baseB_def q2) q3
    | .Name _ _, [], [], h => cases tg <;> exact Bool.noConfusion h
  | _ => cases tg <;> exact Bool.noConfusion h
theorem l_lvs {a : E} (ha : ME J k a) : ME J k (.lvs a) := by
  intro X Z b dp c g e h
  cases e with
  | Call fn xs kw pos =>
    match fn, xs, kw, h with
    | .Name n p, [.Call (.Attribute x m apos) [] [] q], [], h =>
      have h : ((n == ("list" : Str)) && (glB c.sc n && ((m == ("values" : Str)) && (baseB x && ((apos.endLine == q.line) && chkE c a x))))) = true := h
      simp only [Bool.and_eq_true] at h
      obtain ⟨q1, q2, q3, q4, q5, q6⟩ := h
      have := eq_of_beq q1
      subst this
      have := eq_of_beq q3
      subst this
      exact mk1 (p_lvs g.calm (glB_def (by rw [g.sc]; exact q2)) (bl_mem g (by decide)) (ha X Z b dp c g x q6).2.1 (baseB_def q4) q5) rfl rfl
  | _ => exact Bool.noConfusion h
theorem l_lrng {es : Es} (h1 : MEs J k es) : ME J k (.lrng es) := by
  intro X Z b dp c g e h
  cases e with
  | Call fn xs kw pos =>
    match fn, xs, kw, h with
    | .Name n p, [.Call (.Name m p2) ys [] q], [], h =>
      have h : ((n == ("list" : Str)) && (glB c.sc n && ((m == ("range" : Str)) && (glB c.sc m && (decide (ys.length = 1 ∨ ys.length = 2) && chkEs c es ys))))) = true := h
      simp only [Bool.and_eq_true] at h
      obtain ⟨q1, q2, q3, q4, q5, q6⟩ := h
      have := eq_of_beq q1
      subst this
      have := eq_of_beq q3
      subst this
      obtain ⟨s1, s2⟩ := h1 X Z b dp c g ys q6
      have hl : (∃ a, ys = [a]) ∨ ∃ a d, ys = [a, d] := by
        rcases of_decide_eq_true q5 with q | q
        · match ys, q with
          | [a], _ => exact .inl ⟨a, rfl⟩
        · match ys, q with
          | [a, d], _ => exact .inr ⟨a, d, rfl⟩
      exact mk1 (p_lrng g.calm (glB_def (by rw [g.sc]; exact q2)) (bl_mem g (by decide)) (glB_def (by rw [g.sc]; exact q4)) (bl_mem g (by decide)) s2 hl fun a r ha => starB_def (List.all_eq_true.mp s1 a ha)) rfl rfl
  | _ => exact Bool.noConfusion h
/-! ### comprehensions -/
theorem own_ix {N : List Str} {own : List Nat} : (ownOf N own).map (·.2) = own := by
  unfold ownOf
  rw [List.map_map]
  simp [Function.comp_def]
theorem Good.pg {X : Cx} {Z : WX} {b dp : Nat} {c : CEnv} (g : Good X Z b J k dp c) {p : Pt} {tg : Expr} (h : chkP c.N (tgB c.rs) p tg = true) : PG X tg (gP X.K p) :=
  pg_of g.calm g.nd (ok := tgB c.rs) g.tgt p tg (by rw [g.N]; exact h)
theorem tR_blk {X : Cx} {b : Nat} {run : Sl → K Cs.W} {s : Shared} {H0 : Hp} {scope : Scope} {ce : Env} {fp : List Addr} : ∀ σ H Q, tR X Z0 b run σ H Q → tR (X.blk s H0 scope ce fp) Z0 b run σ H Q :=
  fun σ H Q ⟨f, σ', M, ⟨m, hb, sl⟩, h⟩ => ⟨f, σ', M, ⟨m, hb, sl⟩, h⟩
theorem tT_blk {X : Cx} {b : Nat} {run : Sl → K Bool} {s : Shared} {H0 : Hp} {scope : Scope} {ce : Env} {fp : List Addr} : ∀ σ H Q, tT X Z0 b run σ H Q → tT (X.blk s H0 scope ce fp) Z0 b run σ H Q :=
  fun σ H Q ⟨f, σ', M, ⟨m, hb, sl⟩, h⟩ => ⟨f, σ', M, ⟨m, hb, sl⟩, h⟩
theorem iR_blk {X : Cx} {b : Nat} {run : Sl → K Iter} {s : Shared} {H0 : Hp} {scope : Scope} {ce : Env} {fp : List Addr} : ∀ σ H R, iR X Z0 b run σ H R → iR (X.blk s H0 scope ce fp) Z0 b run σ H R := by
  rintro σ H R ⟨f, σ', M, ⟨m, hb, sl⟩, h⟩
  refine ⟨f, σ', M, ⟨m, hb, sl⟩, ?_⟩
  refine Then.imp h (fun J f' M' H' x' m' q T ok => q T ?_) fun _ _ _ _ _ _ z => z
  cases J <;> exact ok
theorem pts_to {X : Cx} {e : List Expr} {t t' : TT} (h : PTs X e t) (k : ∀ σ H Q, t' σ H Q → t σ H Q) : PTs X e t' := ⟨fun pins s σ H Q I w => h.run pins s σ H Q I (k σ H Q w)⟩
theorem pi_to {X : Cx} {tg e : Expr} {t t' : TI} (h : PI X tg e t) (k : ∀ σ H R, t' σ H R → t σ H R) : PI X tg e t' := ⟨fun pins s σ H R I w => h.run pins s σ H R I (k σ H R w)⟩
theorem l_comp {kk : Bool} {own : List Nat} {elt : E} {p : Pt} {it : I} {d : Oe} (he : ME J k elt) (hi : MI J k it) (hd : MO J k d) : ME J k (.comp kk own elt p it d) := by
  intro X Z b dp c g e h
  cases e with
  | ListComp x gs scope pos =>
    match gs, h with
    | [⟨tg, iter, ifs, is⟩], h =>
      have h : (decide (is = 0) && (setB iter && (blkC c.N c.sc scope (ownOf c.N own) && ((asgdP p).all (fun i => own.contains i) && (chkP c.N (tgB scope) p tg &&
        (chkI c it tg iter && (chkT (c.blk scope) d ifs && chkE (c.blk scope) elt x))))))) = true := h
      simp only [Bool.and_eq_true, decide_eq_true_eq] at h
      obtain ⟨q0, q1, q2, q3, q4, q5, q6, q7⟩ := h
      subst q0
      have ok : BlkOk X.N X.env.scope scope (ownOf c.N own) := by rw [g.N, g.sc]; exact blkOk_by q2
      have hp : ∀ i ∈ asgdP p, i ∈ own := fun i h => by simpa using List.all_eq_true.mp q3 i h
      have gb := fun s H C cl fp => Good.blk g scope s H C cl fp
      refine mk1 (pe_to (pe_lc g.calm g.nd (hi X Z b dp c g tg iter q5) ok (g := gP X.K p) (tt := tT X Z0 b fun σ => evc (ora b J k) σ d) (te := tR X Z0 b fun σ => ev (ora b J k) σ elt)
        (fun s H C cl fp => (gb s H C cl fp).pg q4) (fun s H C cl fp => pts_to (hd.2 _ _ _ _ _ (gb s H C cl fp) ifs q6) tT_blk) (fun s H C cl fp => pe_to (he _ _ _ _ _ (gb s H C cl fp) x q7).2.1 tR_blk) (setB_def q1)) fun σ H Q w => ?_) rfl rfl
      rw [own_ix]
      exact tLc_of hp w
  | _ => exact Bool.noConfusion h
theorem l_comp2 {own : List Nat} {elt : E} {p p2 : Pt} {it it2 : I} (he : ME J k elt) (hi : MI J k it) (hi2 : MI J k it2) : ME J k (.comp2 own elt p it p2 it2) := by
  intro X Z b dp c g e h
  cases e with
  | ListComp x gs scope pos =>
    match gs, h with
    | [⟨tg, iter, [], is⟩, ⟨tg2, iter2, [], is2⟩], h =>
      have h : (decide (is = 0) && (decide (is2 = 0) && (setB iter && (setB iter2 && (blkC c.N c.sc scope (ownOf c.N own) && ((asgdP p).all (fun i => own.contains i) &&
        ((asgdP p2).all (fun i => own.contains i) && (chkP c.N (tgB scope) p tg && (chkP c.N (tgB scope) p2 tg2 && (chkI c it tg iter && (chkI (c.blk scope) it2 tg2 iter2 && chkE (c.blk scope) elt x))))))))))) = true := h
      simp only [Bool.and_eq_true, decide_eq_true_eq] at h
      obtain ⟨q0, q01, q1, q11, q2, q3, q33, q4, q44, q5, q55, q7⟩ := h
      subst q0 q01
      have ok : BlkOk X.N X.env.scope scope (ownOf c.N own) := by rw [g.N, g.sc]; exact blkOk_by q2
      have hp : ∀ i ∈ asgdP p, i ∈ own := fun i h => by simpa using List.all_eq_true.mp q3 i h
      have hp2 : ∀ i ∈ asgdP p2, i ∈ own := fun i h => by simpa using List.all_eq_true.mp q33 i h
      have gb := fun s H C cl fp => Good.blk g scope s H C cl fp
      refine mk1 (pe_to (pe_lc2 g.calm g.nd (hi X Z b dp c g tg iter q5) ok (vs1 := asgdP p2) (fun i h => by rw [own_ix]; exact hp2 i h) (g := gP X.K p) (tt := tYes) (wi1 := iR X Z0 b fun σ => evi (ora b J k) σ it2) (g1 := gP X.K p2) (tt1 := tYes) (te := tR X Z0 b fun σ => ev (ora b J k) σ elt)
        (fun s H C cl fp => (gb s H C cl fp).pg q4) (fun s H C cl fp => pts_nil) (fun s H C cl fp => pi_to (hi2 _ _ _ _ _ (gb s H C cl fp) tg2 iter2 q55) iR_blk) (fun s H C cl fp => (gb s H C cl fp).pg q44) (fun s H C cl fp => pts_nil)
        (fun s H C cl fp => pe_to (he _ _ _ _ _ (gb s H C cl fp) x q7).2.1 tR_blk) (setB_def q1) (fun env => setB_def q11)) fun σ H Q w => ?_) rfl rfl
      rw [own_ix]
      exact tLc2_of (k := false) hp w
  | _ => exact Bool.noConfusion h
theorem evs_one {O : Ora} {σ : Sl} {e : E} {g : List W → K W} : (evs O σ (.cons e .nil)).bnd g = (ev O σ e).bnd fun w => g [w] := by
  simp only [evs, K.bnd_assoc, K.pur_bnd]
theorem l_ext1 {op : XO} {e0 : E} (h0 : ME J k e0) : ME J k (.ext op (.cons e0 .nil)) := by
  intro X Z b dp c g e h
  have h : (chkX c op e && (match xArgs op e with
    | some xs => chkEs c (.cons e0 .nil) xs
    | none => false)) = true := h
  rw [Bool.and_eq_true] at h
  obtain ⟨h1, h2⟩ := h
  have er : (fun σ => ev (ora b J k) σ (.ext op (.cons e0 .nil))) = fun σ => (ev (ora b J k) σ e0).bnd fun w => xW (ora b J k) op [w] := funext fun σ => by
    rw [ev, evs_one]
  have one : ∀ {x : Expr}, chkEs c (.cons e0 .nil) [x] = true → chkE c e0 x = true := fun {x} q => by
    have q : (chkE c e0 x && chkEs c .nil []) = true := q
    rw [Bool.and_eq_true] at q
    exact q.1
  unfold xArgs at h2
  split at h2
  · rename_i xs hxs
    split at hxs
    · rename_i cls g0 p x pos
      cases hxs
      have q := one h2
      have h1 : ((g0 == cls) && (glB c.sc g0 && (nmB g0 && c.cd.ex.contains g0))) = true := h1
      simp only [Bool.and_eq_true, nmB, Bool.not_eq_true'] at h1
      obtain ⟨q1, q2, ⟨q3, _⟩, q4⟩ := h1
      have := eq_of_beq q1
      subst this
      obtain ⟨s1, s2, _⟩ := h0 X Z b dp c g x q
      refine mk1 ?_ rfl rfl
      rw [er]
      exact p_mkx g.cls (by simpa using q4) (glB_def (by rw [g.sc]; exact q2)) q3 s2 s1
    · rename_i cls fld g0 p x pos
      cases hxs
      have q := one h2
      have h1 : ((g0 == cls) && (glB c.sc g0 && (nmB g0 && c.cd.ef.contains (g0, fld)))) = true := h1
      simp only [Bool.and_eq_true, nmB, Bool.not_eq_true'] at h1
      obtain ⟨q1, q2, ⟨q3, _⟩, q4⟩ := h1
      have := eq_of_beq q1
      subst this
      obtain ⟨s1, s2, _⟩ := h0 X Z b dp c g x q
      refine mk1 ?_ rfl rfl
      rw [er]
      exact p_mkf g.cls (by simpa using q4) g.room (glB_def (by rw [g.sc]; exact q2)) q3 s2 s1
    · rename_i cls yes no g0 p x n p2 pos
      cases hxs
      have q := one h2
      have h1 : ((g0 == ("isinstance" : Str)) && (glB c.sc g0 && ((n == cls) && (glB c.sc n && (nmB n && c.cd.ia.contains (cls, (yes, no))))))) = true := h1
      simp only [Bool.and_eq_true, nmB, Bool.not_eq_true'] at h1
      obtain ⟨q1, q2, q3, q4, ⟨q5, _⟩, q6⟩ := h1
      have := eq_of_beq q1
      subst this
      have := eq_of_beq q3
      subst this
      obtain ⟨s1, s2, _⟩ := h0 X Z b dp c g x q
      refine mk1 ?_ rfl rfl
      rw [er]
      exact p_isc g.cls (by simpa using q6) (glB_def (by rw [g.sc]; exact q2)) (g.blt _ (by decide)) (glB_def (by rw [g.sc]; exact q4)) q5 s2 s1
    · rename_i cls fld err x n pos
      cases hxs
      have q := one h2
      have h1 : ((n == fld) && (baseB x && c.cd.fa.contains (cls, (fld, err)))) = true := h1
      simp only [Bool.and_eq_true] at h1
      obtain ⟨q1, q2, q3⟩ := h1
      have := eq_of_beq q1
      subst this
      obtain ⟨s1, s2, _⟩ := h0 X Z b dp c g x q
      refine mk1 ?_ rfl rfl
      rw [er]
      exact p_att g.cls (by simpa using q3) s2 q2
    · rename_i cs g0 p x pos
      cases hxs
      have q := one h2
      have h1 : ((g0 == ("str" : Str)) && (glB c.sc g0 && cs.all (c.cd.ex.contains ·))) = true := h1
      simp only [Bool.and_eq_true] at h1
      obtain ⟨q1, q2, q3⟩ := h1
      have := eq_of_beq q1
      subst this
      obtain ⟨s1, s2, _⟩ := h0 X Z b dp c g x q
      refine mk1 ?_ rfl rfl
      rw [er]
      exact p_strx g.cls (fun y hy => by simpa using List.all_eq_true.mp q3 y hy) g.un (glB_def (by rw [g.sc]; exact q2)) (g.blt _ (by decide)) s2 s1
    · cases hxs
  · exact Bool.noConfusion h2
theorem l_ext0 {op : XO} : ME J k (.ext op .nil) := by
  intro X Z b dp c g e h
  have h : (chkX c op e && (match xArgs op e with
    | some xs => chkEs c .nil xs
    | none => false)) = true := h
  rw [Bool.and_eq_true] at h
  obtain ⟨h1, h2⟩ := h
  unfold xArgs at h2
  split at h2
  · rename_i xs hxs
    split at hxs <;> first | (cases hxs; done) | (cases hxs; exact Bool.noConfusion h2)
  · exact Bool.noConfusion h2
theorem l_ext2 {op : XO} {e0 e1 : E} {r : Es} : ME J k (.ext op (.cons e0 (.cons e1 r))) := by
  intro X Z b dp c g e h
  have h : (chkX c op e && (match xArgs op e with
    | some xs => chkEs c (.cons e0 (.cons e1 r)) xs
    | none => false)) = true := h
  rw [Bool.and_eq_true] at h
  obtain ⟨h1, h2⟩ := h
  have one : ∀ {x : Expr}, chkEs c (.cons e0 (.cons e1 r)) [x] = true → False := fun {x} q => by
    have q : (chkE c e0 x && false) = true := q
    rw [Bool.and_false] at q
    cases q
  unfold xArgs at h2
  split at h2
  · rename_i xs hxs
    split at hxs <;> first | (cases hxs; done) | (cases hxs; exact (one h2).elim)
  · exact Bool.noConfusion h2
theorem l_none {E : E} (h : ∀ c e, chkE c E e = false) : ME J k E := fun X Z b dp c g e q => by rw [h] at q; cases q
end
/-! ### all of it -/
section
variable (J : Info) (k : Nat)
mutual
theorem mE : ∀ e : E, ME J k e
  | .var i => l_var i
  | .glob x => l_glob x
  | .con d => l_con d
  | .op _ a b => l_op (mE a) (mE b)
  | .cat a b => l_cat (mE a) (mE b)
  | .neg a => l_neg (mE a)
  | .cmp _ a b => l_cmp (mE a) (mE b)
  | .kin _ a b => l_kin (mE a) (mE b)
  | .isN a => l_isN (mE a)
  | .notN a => l_notN (mE a)
  | .chain _ _ a b c => l_chain (mE a) (mE b) (mE c)
  | .and_ a b => l_and (mE a) (mE b)
  | .or_ a b => l_or (mE a) (mE b)
  | .not_ a => l_not (mE a)
  | .ite c a b => l_ite (mE c) (mE a) (mE b)
  | .tup es => l_tup (mEs es)
  | .lst _ es => l_lst (mEs es)
  | .dic _ kvs => l_dic (mK kvs)
  | .sub a i => l_sub (mE a) (mE i)
  | .slc a lo hi => l_slc (mE a) (mO lo) (mO hi)
  | .rev a => l_rev (mE a)
  | .call _ es => l_call (mEs es)
  | .word _ _ _ e => l_word (mE e)
  | .isi _ a => l_isi (mE a)
  | .blt _ es => l_blt (mEs es)
  | .sset a => l_sset (mE a)
  | .lset a => l_lset (mE a)
  | .lvs a => l_lvs (mE a)
  | .lrng es => l_lrng (mEs es)
  | .meth _ o es => l_meth (mE o) (mEs es)
  | .gix _ e => l_gix (mE e)
  | .comp _ _ elt _ it c => l_comp (mE elt) (mI it) (mO c)
  | .comp2 _ elt _ it _ it2 => l_comp2 (mE elt) (mI it) (mI it2)
  | .ext _ .nil => l_ext0
  | .ext _ (.cons e .nil) => l_ext1 (mE e)
  | .ext _ (.cons _ (.cons _ _)) => l_ext2
theorem mEs : ∀ es : Es, MEs J k es
  | .nil => es_nil
  | .cons e r => es_cons (mE e) (mEs r)
theorem mK : ∀ kvs : KVs, MK J k kvs
  | .nil => kv_nil
  | .cons a v r => kv_cons (mE a) (mE v) (mK r)
theorem mO : ∀ o : Oe, MO J k o
  | .no => oe_no
  | .yes e => oe_yes (mE e)
theorem mI : ∀ i : I, MI J k i
  | .of e => i_of (mE e)
  | .rng es => i_rng (mEs es)
  | .zip es => i_zip (mEs es)
  | .enu es => i_enu (mEs es)
  | .vals a => i_vals (mE a)
end
end
end Cs
set_option Elab.async false
set_option linter.all false
set_option autoImplicit false
set_option maxRecDepth 100000
set_option maxHeartbeats 2000000
/-! Statements, one by one. -/
namespace Cs
open PySem L2 PyProof.Rows
theorem Sam.refl {l : List Nat} {a : L2.St} : Sam l a a := ⟨rfl, fun _ _ => rfl⟩
theorem Sam.tr {l : List Nat} {a b c : L2.St} (h : Sam l a b) (h' : Sam l b c) : Sam l a c := ⟨h'.1.trans h.1, fun i hi => (h'.2 i hi).trans (h.2 i hi)⟩
theorem Sam.mono {l l' : List Nat} {a b : L2.St} (h : Sam l a b) (k : ∀ i ∈ l, i ∈ l') : Sam l' a b := ⟨h.1, fun i hi => h.2 i fun z => hi (k i z)⟩
/-- what is wanted of an exception that leaves a block which stores at l -/
def erS (X : Cx) (Z : WX) (l : List Nat) (σV : L2.St) : Exc → Fm → Mem → Hp → Prop := fun e f' M' H' => ∀ σV', Sam l σV σV' → ∀ cls d, ExcIs X e cls d H' (isC f' M') → Z cls d σV' H'
theorem erS.now {X : Cx} {Z : WX} {l : List Nat} {σV : L2.St} {e : Exc} {f' : Fm} {M' : Mem} {H' : Hp} (h : erS X Z l σV e f' M' H') : erW X Z σV e f' M' H' := h σV .refl
/-- a statement's reading -/
def okS (X : Cx) (D : Ends) (l : List Nat) (σV : L2.St) : Fl × Sl → Fm → Mem → Hp → Prop := fun r f' M' H' => match r.1 with
  | .nx => ∀ σV', SlR X.K X.w f' M' H' σV' r.2 → Sam l σV σV' → D.nx σV' H'
  | .rt w => ∀ v, RW X.K X.w f' M' H' v w → D.rt v H'
def tS (X : Cx) (Z : WX) (b : Nat) (l : List Nat) (run : Sl → K (Fl × Sl)) : TS := fun D σV H => ∃ f σ M, Stt X b f σ M σV H ∧ Then X.K X.w b f M H (run σ M) (okS X D l σV) (erS X Z l σV)
theorem ps_to {X : Cx} {st : Stmt} {t t' : TS} (h : PS X st t) (k : ∀ D σ H, t' D σ H → t D σ H) : PS X st t' := ⟨fun pins s σ H D I w => h.run pins s σ H D I (k D σ H w)⟩
theorem pss_to {X : Cx} {st : List Stmt} {t t' : TS} (h : PSs X st t) (k : ∀ D σ H, t' D σ H → t D σ H) : PSs X st t' := ⟨fun pins s σ H D I w => h.run pins s σ H D I (k D σ H w)⟩
section
variable {X : Cx} {Z : WX} {b : Nat} {l : List Nat}
/-- an expression's part of a statement -/
theorem tS.ev {re : Sl → K Cs.W} {g : Sl → Cs.W → K (Fl × Sl)} {D : Ends} {σV : L2.St} {H : Hp} (h : tS X Z b l (fun σ => (re σ).bnd (g σ)) D σV H) :
    tR X Z b re σV H fun v H1 => ∃ f1 σ M1 y, Stt X b f1 σ M1 σV H1 ∧ RW X.K X.w f1 M1 H1 v y ∧ Then X.K X.w b f1 M1 H1 (g σ y M1) (okS X D l σV) (erS X Z l σV) := by
  obtain ⟨f, σ, M, s, h⟩ := h
  exact ⟨f, σ, M, s, h.bnd.imp (fun y f1 M1 H1 x1 m1 h1 v rv => ⟨f1, σ, M1, y, s.ext x1 m1, rv, h1⟩) fun _ _ _ _ _ _ z => z.now⟩
theorem s_pass {pos : Pos} : PS X (.Pass pos) (tS X Z b l fun σ => K.pur (Fl.nx, σ)) := ps_to ps_pass fun D σ H ⟨f, σ', M, s, h⟩ => h f H .refl s.mem σ s.sl .refl
theorem s_retN {pos : Pos} : PS X (.Return none pos) (tS X Z b l fun σ => K.pur (Fl.rt (W.d .none), σ)) := ps_to ps_retN fun D σ H ⟨f, σ', M, s, h⟩ => h f H .refl s.mem .non DR.non
theorem s_ret {e : Expr} {pos : Pos} {re : Sl → K Cs.W} (he : PE X e (tR X Z b re)) : PS X (.Return (some e) pos) (tS X Z b l fun σ => (re σ).bnd fun w => K.pur (Fl.rt w, σ)) :=
  ps_to (ps_ret he) fun D σ H h => h.ev.mono fun v H1 ⟨f, σ', M, y, s, r, h⟩ => h f H1 .refl s.mem v r
theorem s_ex {e : Expr} {pos : Pos} {re : Sl → K Cs.W} (he : PE X e (tR X Z b re)) (hs : swapsWith e none pos.line X.env = pure false) : PS X (.Expr e pos) (tS X Z b l fun σ => (re σ).bnd fun _ => K.pur (Fl.nx, σ)) :=
  ps_to (ps_expr he hs) fun D σ H h => h.ev.mono fun v H1 ⟨f, σ', M, y, s, r, h⟩ => h f H1 .refl s.mem σ s.sl .refl
/-- a target takes what came -/
theorem asg_end {p : Pt} {D : Ends} {σV : L2.St} {H1 : Hp} {f1 : Fm} {σ : Sl} {M1 : Mem} {y : Cs.W} {v : V} (hl : ∀ i ∈ asgdP p, i ∈ l) (s : Stt X b f1 σ M1 σV H1) (r : RW X.K X.w f1 M1 H1 v y)
    (h : Then X.K X.w b f1 M1 H1 (((K.opt (bindP p y σ)).bnd fun σ' => K.pur (Fl.nx, σ')) M1) (okS X D l σV) (erS X Z l σV)) : gP X.K p v σV H1 D.nx := by
  obtain ⟨σ', e, h⟩ := h.opt
  exact gP_ok e s.sl r fun σV' s' k => h f1 H1 .refl s.mem σV' s' (k.mono hl)
theorem s_asg {p : Pt} {tg e : Expr} {pos : Pos} {re : Sl → K Cs.W} (he : PE X e (tR X Z b re)) (hg : PG X tg (gP X.K p)) (hs : swapsWithSole [tg] e pos.line X.env = pure false) (hw : swappedStores [tg] e X.env = pure none)
    (h1 : (assignEach [tg] X.env).map (·.2) = [assign tg X.env]) (hl : ∀ i ∈ asgdP p, i ∈ l) : PS X (.Assign [tg] e pos) (tS X Z b l fun σ => (re σ).bnd fun w => (K.opt (bindP p w σ)).bnd fun σ' => K.pur (Fl.nx, σ')) :=
  ps_to (ps_asg he hg hs hw h1) fun D σ H h => h.ev.mono fun v H1 ⟨f, σ', M, y, s, r, h⟩ => asg_end hl s r h
theorem s_if {c : Expr} {x y : List Stmt} {pos : Pos} {rc : Sl → K Cs.W} {r1 r2 : Sl → K (Fl × Sl)} (hc : PT X c (tT X Z b fun σ => (rc σ).bnd bool)) (h1 : PSs X x (tS X Z b l r1)) (h2 : PSs X y (tS X Z b l r2)) :
    PS X (.If c x y pos) (tS X Z b l fun σ => (rc σ).bnd fun w => (bool w).bnd fun t => if t then r1 σ else r2 σ) := by
  refine ps_to (ps_if hc h1 h2) fun D σ H ⟨f, σ', M, s, h⟩ => ?_
  have e : (fun σ => (rc σ).bnd fun w => (bool w).bnd fun t => if t then r1 σ else r2 σ) σ' = ((rc σ').bnd bool).bnd fun t => if t then r1 σ' else r2 σ' := by
    simp only [K.bnd_assoc]
  rw [e] at h
  refine ⟨f, σ', M, s, h.bnd.imp (fun t f1 M1 H1 x1 m1 h1 => ?_) fun _ _ _ _ _ _ z => z.now⟩
  cases t with
  | true => exact ⟨f1, σ', M1, s.ext x1 m1, h1⟩
  | false => exact ⟨f1, σ', M1, s.ext x1 m1, h1⟩
theorem tS.wide {l' : List Nat} {run : Sl → K (Fl × Sl)} (hl : ∀ i ∈ l, i ∈ l') {D : Ends} {σV : L2.St} {H : Hp} (h : tS X Z b l' run D σV H) : tS X Z b l run D σV H := by
  obtain ⟨f, σ, M, s, h⟩ := h
  refine ⟨f, σ, M, s, h.imp (fun r f' M' H' x m q => ?_) fun e f' M' H' x m q σV' k => q σV' (k.mono hl)⟩
  unfold okS at q ⊢
  split
  · rename_i e
    simp only [e] at q
    exact fun σV' s' k => q σV' s' (k.mono hl)
  · rename_i w e
    simp only [e] at q
    exact q
theorem s_seq {st : Stmt} {rest : List Stmt} {r1 r2 : Sl → K (Fl × Sl)} (h1 : PS X st (tS X Z b l r1)) (h2 : PSs X rest (tS X Z b l r2)) :
    PSs X (st :: rest) (tS X Z b l fun σ => (r1 σ).bnd fun q => match q.1 with | .nx => r2 q.2 | .rt w => K.pur (.rt w, q.2)) := by
  refine pss_to (pss_cons h1 h2) fun D σ H ⟨f, σ', M, s, h⟩ => ?_
  refine ⟨f, σ', M, s, h.bnd.imp (fun q f1 M1 H1 x1 m1 h1 => ?_) fun _ _ _ _ _ _ z => z⟩
  obtain ⟨fl, σ1⟩ := q
  cases fl with
  | rt w => exact h1 f1 H1 .refl m1
  | nx =>
    intro σV' s' k
    refine ⟨f1, σ1, M1, ⟨m1, Nat.le_trans s.base x1.len, s'⟩, h1.imp (fun r f' M' H' x m q => ?_) fun e f' M' H' x m q σV2 k2 => q σV2 (k.tr k2)⟩
    unfold okS at q ⊢
    split
    · rename_i e
      simp only [e] at q
      exact fun σV2 s2 k2 => q σV2 s2 (k.tr k2)
    · rename_i w e
      simp only [e] at q
      exact q
theorem s_nil : PSs X [] (tS X Z b l fun σ => K.pur (Fl.nx, σ)) := pss_to pss_nil fun D σ H ⟨f, σ', M, s, h⟩ => h f H .refl s.mem σ s.sl .refl
end
end Cs
set_option Elab.async false
set_option linter.all false
set_option autoImplicit false
set_option maxRecDepth 100000
set_option maxHeartbeats 2000000
/-! Statements: stores of items, loops. -/
namespace Cs
open PySem L2 PyProof.Rows
section
variable {X : Cx} {Z : WX} {b : Nat} {l : List Nat}
/-- o[i] = v -/
def tPut (X : Cx) (Z : WX) (b : Nat) (σV : L2.St) : TSet := fun o i v H Q => ∃ f M x y z, MemOk X.K X.w f M H ∧ b ≤ M.length ∧ RW X.K X.w f M H o x ∧ RW X.K X.w f M H i y ∧ RW X.K X.w f M H v z ∧ Then X.K X.w b f M H (putW b x y z M) (fun _ f' M' H' => Q H') (erW X Z σV)
theorem pset_put (hu : X.A.units + 100 < cLine) (σV : L2.St) : PSet X (tPut X Z b σV) := fun pins s σ H o i v ov iv u Q I r1 r2 r3 h => x_put (Z := Z) (σV := σV) hu pins s σ H o i v ov iv u Q I r1 r2 r3 h
theorem s_put {o i e : Expr} {p pos : Pos} {re ro ri : Sl → K Cs.W} (hix : plainIxB i = true) (hu : X.A.units + 100 < cLine) (he : PE X e (tR X Z b re)) (ho : PE X o (tR X Z b ro)) (hi : PE X i (tR X Z b ri)) :
    PS X (.Assign [.Subscript o i p] e pos) (tS X Z b l fun σ => (re σ).bnd fun w => (ro σ).bnd fun x => (ri σ).bnd fun y => (putW b x y w).bnd fun _ => K.pur (Fl.nx, σ)) := by
  refine ⟨fun pins s σ H D I h => ?_⟩
  have hg : PG X (.Subscript o i p) (gSub (tR X Z b ro) (tR X Z b ri) (tPut X Z b σ)) := pg_sub ho hi (pset_put hu σ) (by cases i <;> first | (intro v; rfl) | simp [plainIxB] at hix)
  refine (ps_asg he hg (pos := pos) ?_ ?_ rfl).run pins s σ H D I ?_
  · cases e <;> rfl
  · rfl
  · refine h.ev.mono fun v H1 ⟨f, σ', M, y, st, r, h⟩ => ⟨f, σ', M, st, h.bnd.imp (fun x f1 M1 H1 x1 m1 h1 u ru => ?_) fun _ _ _ _ _ _ z => z.now⟩
    refine ⟨f1, σ', M1, st.ext x1 m1, h1.bnd.imp (fun j f2 M2 H2 x2 m2 h2 w rw => ?_) fun _ _ _ _ _ _ z => z.now⟩
    exact ⟨f2, M2, x, j, y, m2, Nat.le_trans (st.ext x1 m1).base x2.len, ru.ext x2, rw, (r.ext x1).ext x2, h2.bnd.imp (fun _ f3 M3 H3 x3 m3 h3 => h3 f3 H3 .refl m3 σ ((((st.ext x1 m1).ext x2 m2).ext x3 m3).sl) .refl) fun _ _ _ _ _ _ z => z.now⟩
/-- the end of a loop's turn -/
theorem Then.of_eq {α : Type} {f : Fm} {M : Mem} {H : Hp} {r r' : Res α} {ok : α → Fm → Mem → Hp → Prop} {er : Exc → Fm → Mem → Hp → Prop} (e : r = r') (h : Then X.K X.w b f M H r ok er) : Then X.K X.w b f M H r' ok er := by subst e; exact h
def fBody (p : Pt) (rb : Sl → K (Fl × Sl)) (w : Cs.W) (s : Fl × Sl) : K (Bool × (Fl × Sl)) := (K.opt (bindP p w s.2)).bnd fun σ' => (rb σ').bnd fun r => K.pur (match r.1 with | .nx => true | .rt _ => false, r)
theorem Then.shift {α : Type} {f1 f : Fm} {M1 M : Mem} {H1 H : Hp} {r : Res α} {ok : α → Fm → Mem → Hp → Prop} {er : Exc → Fm → Mem → Hp → Prop} (x : Ext b f1 M1 H1 f M H) (m : MemOk X.K X.w f M H) (h : Then X.K X.w b f1 M1 H1 r ok er) : Then X.K X.w b f M H r ok er := by
  cases r with
  | ok a M' => exact fun f' H' x' m' => h f' H' (x.trans m x') m'
  | exc e M' => exact fun f' H' x' m' => h f' H' (x.trans m x') m'
  | no => exact h
theorem s_for {p : Pt} {tg iter : Expr} {body : List Stmt} {pos : Pos} {ri : Sl → K Iter} {rb : Sl → K (Fl × Sl)} (hp : PassesOwn (model X.prog X.w) X.A X.env X.xe) (hc : X.calm = true) (hi : PI X tg iter (iR X Z b ri)) (hg : PG X tg (gP X.K p)) (hb : PSs X body (tS X Z b l rb)) (hs : ∀ x, foldedSetIterable iter X.env x = pure x)
    (hl : ∀ i ∈ asgdP p, i ∈ l) : PS X (.For tg iter body [] pos) (tS X Z b l fun σ => (ri σ).bnd fun J => (foldK (fBody p rb) J (Fl.nx, σ)).bnd fun r => K.pur r.2) := by
  refine ps_to (ps_for hp hc hi hg hb hs) fun D σV H ⟨f, σ, M, st, h⟩ => ?_
  refine ⟨f, σ, M, st, h.bnd.imp (fun J f1 M1 H1 x1 m1 h1 T ok => ?_) fun _ _ _ _ _ _ z => z.now⟩
  have st1 := st.ext x1 m1
  have hn := h1.ne
  obtain ⟨k0, hf0, e0⟩ := fold_start rfl hn
  generalize ((foldK (fBody p rb) J (Fl.nx, σ)).bnd fun r => K.pur r.2) M1 = r0 at h1 hn e0
  refine ⟨fun i n σV' H' => FuelOk J i n ∧ ∃ f' M' σ', Ext b f1 M1 H1 f' M' H' ∧ MemOk X.K X.w f' M' H' ∧ SlR X.K X.w f' M' H' σV' σ' ∧ Sam l σV σV' ∧
    r0 = ((foldR (fBody p rb) J i n (Fl.nx, σ')).bnd fun r => K.pur r.2) M', ⟨k0, hf0, f1, M1, σ, .refl, m1, st1.sl, .refl, e0⟩, ?_⟩
  rintro i n σV' H' ⟨hf, f', M', σ', x', m', sl, sam, e⟩
  have h1' := h1.shift x' m'
  rcases fold_turn ok x'.mv m' hf e hn with ⟨_, hstop, e⟩ | ⟨n', y, rfl, hf', hgo, hy, e⟩
  · refine .inl ⟨hstop, ?_⟩
    rw [e] at h1'
    exact h1' f' H' .refl m' σV' sl sam
  · refine .inr ⟨hgo, fun σV2 H2 => FuelOk J (i + 1) n' ∧ ∃ f' M' σ', Ext b f1 M1 H1 f' M' H2 ∧ MemOk X.K X.w f' M' H2 ∧ SlR X.K X.w f' M' H2 σV2 σ' ∧ Sam l σV σV2 ∧
      r0 = ((foldR (fBody p rb) J (i + 1) n' (Fl.nx, σ')).bnd fun r => K.pur r.2) M', fun σV2 H2 q => ⟨n', Nat.lt_succ_self _, q⟩, fun u H2 hu => ?_⟩
    obtain ⟨m3, x3, ru⟩ := hy u H2 hu
    unfold fBody at e
    simp only [K.bnd_assoc] at e
    obtain ⟨σ2, hbind, e⟩ := traceO e hn
    refine gP_ok hbind (sl.ext x3) ru fun σV2 s2 same => ?_
    have h3 := h1'.shift x3 m3
    have sam2 := sam.tr (same.mono hl)
    have tq := trace (G := X.K) (w := X.w) (b := b) (f := f') (H := H2) e hn
    refine ⟨f', σ2, M', ⟨m3, Nat.le_trans st1.base x'.len, s2⟩, tq.imp (fun r f4 M4 H4 x4 m4 e4 => ?_) fun ex f4 M4 H4 x4 m4 e4 => ?_⟩
    · obtain ⟨fl, σ4⟩ := r
      cases fl with
      | nx =>
        intro σV4 s4 k4
        exact ⟨hf', f4, M4, σ4, (x'.trans m' x3).trans m3 x4, m4, s4, sam2.tr k4, e4⟩
      | rt w =>
        intro v rv
        have h4 := h3.shift x4 m4
        rw [e4] at h4
        exact h4 f4 H4 .refl m4 v rv
    · intro σV4 k4 cls d hx
      have h4 := h3.shift x4 m4
      rw [e4] at h4
      exact h4 f4 H4 .refl m4 σV4 (sam2.tr k4) cls d hx
end
end Cs
set_option Elab.async false
set_option linter.all false
set_option autoImplicit false
set_option maxRecDepth 100000
set_option maxHeartbeats 2000000
/-! Statements: while; several names at once; lists made by comprehensions. -/
namespace Cs
open PySem L2 PyProof.Rows
section
variable {X : Cx} {Z : WX} {b : Nat} {l : List Nat}
def wCond (rc : Sl → K Cs.W) (s : Fl × Sl) : K Bool := (rc s.2).bnd fun x => bool x
def wBody (rb : Sl → K (Fl × Sl)) (s : Fl × Sl) : K (Bool × (Fl × Sl)) := (rb s.2).bnd fun r => K.pur (match r.1 with | .nx => true | .rt _ => false, r)
theorem s_while {c : Expr} {body : List Stmt} {pos : Pos} {rc : Sl → K Cs.W} {rb : Sl → K (Fl × Sl)} (hp : PassesOwn (model X.prog X.w) X.A X.env X.xe) (hc : PT X c (tT X Z b fun σ => (rc σ).bnd bool)) (hb : PSs X body (tS X Z b l rb)) :
    PS X (.While c body [] pos) (tS X Z b l fun σ => (whl (wCond rc) (wBody rb) (Fl.nx, σ)).bnd fun r => K.pur r.2) := by
  refine ps_to (ps_while hp hc hb) fun D σV H ⟨f1, σ, M1, st1, h1⟩ => ?_
  dsimp only at h1
  have hn := h1.ne
  have m1 := st1.mem
  have hw : whl (wCond rc) (wBody rb) (Fl.nx, σ) M1 ≠ .no := fun z => hn (by unfold K.bnd; simp only [z])
  obtain ⟨n0, hn0, _⟩ := whl_ex hw
  have e0 : ((whl (wCond rc) (wBody rb) (Fl.nx, σ)).bnd fun r => K.pur r.2) M1 = ((whlN (wCond rc) (wBody rb) n0 (Fl.nx, σ)).bnd fun r => K.pur r.2) M1 := by
    unfold K.bnd
    rw [hn0]
  generalize ((whl (wCond rc) (wBody rb) (Fl.nx, σ)).bnd fun r => K.pur r.2) M1 = r0 at h1 hn e0
  refine ⟨fun n σV' H' => ∃ f' M' σ', Ext b f1 M1 H f' M' H' ∧ MemOk X.K X.w f' M' H' ∧ SlR X.K X.w f' M' H' σV' σ' ∧ Sam l σV σV' ∧ r0 = ((whlN (wCond rc) (wBody rb) n (Fl.nx, σ')).bnd fun r => K.pur r.2) M', ⟨n0, f1, M1, σ, .refl, m1, st1.sl, .refl, e0⟩, ?_⟩
  rintro n σV' H' ⟨f', M', σ', x', m', sl, sam, e⟩
  have h1' := h1.shift x' m'
  cases n with
  | zero => exact absurd e hn
  | succ n =>
    simp only [whlN, K.bnd_assoc] at e
    have tq := trace (G := X.K) (w := X.w) (b := b) (f := f') (H := H') e hn
    refine ⟨f', σ', M', ⟨m', Nat.le_trans st1.base x'.len, sl⟩, tq.imp (fun t f4 M4 H4 x4 m4 e4 => ?_) fun ex f4 M4 H4 x4 m4 e4 => ?_⟩
    · have h4 := h1'.shift x4 m4
      have sl4 := sl.ext x4
      cases t with
      | false =>
        simp only [Bool.false_eq_true, if_false, K.pur_bnd] at e4 ⊢
        rw [e4] at h4
        exact h4 f4 H4 .refl m4 σV' sl4 sam
      | true =>
        simp only [if_true] at e4 ⊢
        refine ⟨fun σV2 H2 => ∃ f' M' σ', Ext b f1 M1 H f' M' H2 ∧ MemOk X.K X.w f' M' H2 ∧ SlR X.K X.w f' M' H2 σV2 σ' ∧ Sam l σV σV2 ∧ r0 = ((whlN (wCond rc) (wBody rb) n (Fl.nx, σ')).bnd fun r => K.pur r.2) M', fun σV2 H2 q => ⟨n, Nat.lt_succ_self _, q⟩, ?_⟩
        unfold wBody at e4
        simp only [K.bnd_assoc] at e4
        have tq2 := trace (G := X.K) (w := X.w) (b := b) (f := f4) (H := H4) e4 hn
        refine ⟨f4, σ', M4, ⟨m4, Nat.le_trans (Nat.le_trans st1.base x'.len) x4.len, sl4⟩, tq2.imp (fun r f5 M5 H5 x5 m5 e5 => ?_) fun ex f5 M5 H5 x5 m5 e5 => ?_⟩
        · obtain ⟨fl, σ5⟩ := r
          cases fl with
          | nx =>
            intro σV5 s5 k5
            exact ⟨f5, M5, σ5, (x'.trans m' x4).trans m4 x5, m5, s5, sam.tr k5, e5⟩
          | rt w =>
            intro v rv
            have h5 := h4.shift x5 m5
            rw [e5] at h5
            exact h5 f5 H5 .refl m5 v rv
        · intro σV5 k5 cls d hx
          have h5 := h4.shift x5 m5
          rw [e5] at h5
          exact h5 f5 H5 .refl m5 σV5 (sam.tr k5) cls d hx
    · intro cls d hx
      have h4 := h1'.shift x4 m4
      rw [e4] at h4
      exact h4 f4 H4 .refl m4 σV' sam cls d hx
/-! ### several names at once -/
theorem tS.evs {rs : Sl → K (List Cs.W)} {g : Sl → List Cs.W → K (Fl × Sl)} {D : Ends} {σV : L2.St} {H : Hp} (h : tS X Z b l (fun σ => (rs σ).bnd (g σ)) D σV H) :
    tRs X Z b rs σV H fun vs H1 => ∃ f1 σ M1 ys, Stt X b f1 σ M1 σV H1 ∧ RWs X.K X.w f1 M1 H1 vs ys ∧ Then X.K X.w b f1 M1 H1 (g σ ys M1) (okS X D l σV) (erS X Z l σV) := by
  obtain ⟨f, σ, M, s, h⟩ := h
  exact ⟨f, σ, M, s, h.bnd.imp (fun y f1 M1 H1 x1 m1 h1 v rv => ⟨f1, σ, M1, y, s.ext x1 m1, rv, h1⟩) fun _ _ _ _ _ _ z => z.now⟩
theorem bind_v {i : Nat} {y : Cs.W} {σ σ' : Sl} (h : bindP (.v i) y σ = some σ') : i < σ.length ∧ σ' = σ.set i (some y) := by
  simp only [bindP] at h
  split at h
  · exact ⟨‹_›, (Option.some.inj h).symm⟩
  · cases h
theorem Sam.set {σ : L2.St} {i : Nat} {v : V} (h : i ∈ l) : Sam l σ (σ.set i (some v)) := ⟨by simp, fun j hj => List.getElem?_set_ne fun (z : i = j) => hj (by rw [← z]; exact h)⟩
/-- a, b = x, y through a tuple that is made and taken apart -/
theorem s_asgt {ps : Pts} {ts vs : List Expr} {k k2 : Nat} {p p2 pos : Pos} {rs : Sl → K (List Cs.W)} (ha : PA X vs (tRs X Z b rs)) (hg : PG X (.Tuple ts k p) (gP X.K (.tup ps))) (hs : swapsWithSole [.Tuple ts k p] (.Tuple vs k2 p2) pos.line X.env = pure false) (hw : swappedStores [.Tuple ts k p] (.Tuple vs k2 p2) X.env = pure none)
    (h1 : (assignEach [.Tuple ts k p] X.env).map (·.2) = [assign (.Tuple ts k p) X.env]) (hn : lenPs ps < 100) (hl : ∀ i ∈ asgdPs ps, i ∈ l) :
    PS X (.Assign [.Tuple ts k p] (.Tuple vs k2 p2) pos) (tS X Z b l fun σ => (rs σ).bnd fun ws => (K.opt (bindPs ps ws σ)).bnd fun σ' => K.pur (Fl.nx, σ')) := by
  refine ps_to (ps_asg (pe_tup ha) hg hs hw h1) fun D σV H h => h.evs.mono fun vs H1 ⟨f, σ, M, ys, s, r, h⟩ => ?_
  obtain ⟨σ', e, h⟩ := h.opt
  have hlen := lenPs_of e
  have hv := r.length
  refine ⟨by have : sizeLine = 16777216 := rfl; omega, fun a hp => ?_⟩
  obtain ⟨m', x'⟩ := s.mem.lay (b := b) (o := .tup vs) hp
  rw [gP]
  exact ⟨a, vs, rfl, .inl (.inl upd_same), by omega, gPs_ok e (s.sl.ext x') (r.ext x') fun σV' s' k => h f _ x' m' σV' s' (k.mono hl)⟩
theorem s_par {i j : Nat} {x y : Str} {a c : Expr} {px py pt pos : Pos} {kt k2 : Nat} {pt2 : Pos} {rs : Sl → K (List Cs.W)} (hc : X.calm = true) (hN : X.N.Nodup) (hi : X.N[i]? = some x) (hj : X.N[j]? = some y) (hij : i ≠ j)
    (hx : X.env.scope.names.lookup x = some .local) (hy : X.env.scope.names.lookup y = some .local) (ha : PA X [a, c] (tRs X Z b rs))
    (hw : swappedStores [.Tuple [.Name x px, .Name y py] kt pt] (.Tuple [a, c] k2 pt2) X.env = pure (some [x, y])) (li : i ∈ l) (lj : j ∈ l) :
    PS X (.Assign [.Tuple [.Name x px, .Name y py] kt pt] (.Tuple [a, c] k2 pt2) pos) (tS X Z b l fun σ => (rs σ).bnd fun ws => (K.opt (bindPs (.cons (.v i) (.cons (.v j) .nil)) ws σ)).bnd fun σ' => K.pur (Fl.nx, σ')) := by
  refine ps_to (ps_par hc hN hi hj hij hx hy ha hw) fun D σV H h => h.evs.mono fun vs H1 ⟨f, σ, M, ys, s, r, h⟩ => ?_
  obtain ⟨σ', e, h⟩ := h.opt
  match ys, r, e with
  | [y1, y2], r, e =>
    obtain ⟨v, u, rfl, r1, r2⟩ := r.two
    simp only [bindPs] at e
    obtain ⟨σ1, e1, e2⟩ := Option.bind_eq_some_iff.mp e
    obtain ⟨σ2, e3, e4⟩ := Option.bind_eq_some_iff.mp e2
    cases e4
    obtain ⟨l1, rfl⟩ := bind_v e1
    obtain ⟨l2, rfl⟩ := bind_v e3
    refine ⟨v, u, rfl, h f H1 .refl s.mem _ ((s.sl.set l1 r1).set l2 r2) ((Sam.set li).tr (Sam.set lj))⟩
  | [], _, e => simp [bindPs] at e
  | [_], _, e => simp [bindPs] at e
  | _ :: _ :: _ :: _, _, e =>
    simp only [bindPs] at e
    obtain ⟨σ1, e1, e2⟩ := Option.bind_eq_some_iff.mp e
    obtain ⟨σ2, e3, e4⟩ := Option.bind_eq_some_iff.mp e2
    cases e4
theorem s_par3 {i j m : Nat} {x y z : Str} {a c d : Expr} {px py pz pt pos : Pos} {kt k2 : Nat} {pt2 : Pos} {rs : Sl → K (List Cs.W)} (hc : X.calm = true) (hN : X.N.Nodup) (hi : X.N[i]? = some x) (hj : X.N[j]? = some y) (hm : X.N[m]? = some z) (hij : i ≠ j) (him : i ≠ m) (hjm : j ≠ m)
    (hx : X.env.scope.names.lookup x = some .local) (hy : X.env.scope.names.lookup y = some .local) (hz : X.env.scope.names.lookup z = some .local) (ha : PA X [a, c, d] (tRs X Z b rs))
    (hw : swappedStores [.Tuple [.Name x px, .Name y py, .Name z pz] kt pt] (.Tuple [a, c, d] k2 pt2) X.env = pure (some [x, y, z])) (li : i ∈ l) (lj : j ∈ l) (lm : m ∈ l) :
    PS X (.Assign [.Tuple [.Name x px, .Name y py, .Name z pz] kt pt] (.Tuple [a, c, d] k2 pt2) pos) (tS X Z b l fun σ => (rs σ).bnd fun ws => (K.opt (bindPs (.cons (.v i) (.cons (.v j) (.cons (.v m) .nil))) ws σ)).bnd fun σ' => K.pur (Fl.nx, σ')) := by
  refine ps_to (ps_par3 hc hN hi hj hm hij him hjm hx hy hz ha hw) fun D σV H h => h.evs.mono fun vs H1 ⟨f, σ, M, ys, s, r, h⟩ => ?_
  obtain ⟨σ', e, h⟩ := h.opt
  match ys, r, e with
  | [y1, y2, y3], r, e =>
    match vs, r with
    | v :: vs, ⟨r1, r⟩ =>
      obtain ⟨u, w, rfl, r2, r3⟩ := r.two
      simp only [bindPs] at e
      obtain ⟨σ1, e1, e2⟩ := Option.bind_eq_some_iff.mp e
      obtain ⟨σ2, e3, e4⟩ := Option.bind_eq_some_iff.mp e2
      obtain ⟨σ3, e5, e6⟩ := Option.bind_eq_some_iff.mp e4
      cases e6
      obtain ⟨l1, rfl⟩ := bind_v e1
      obtain ⟨l2, rfl⟩ := bind_v e3
      obtain ⟨l3, rfl⟩ := bind_v e5
      exact ⟨v, u, w, rfl, h f H1 .refl s.mem _ (((s.sl.set l1 r1).set l2 r2).set l3 r3) (((Sam.set li).tr (Sam.set lj)).tr (Sam.set lm))⟩
  | [], _, e => simp [bindPs] at e
  | [_], _, e => simp [bindPs] at e
  | [_, _], _, e =>
    simp only [bindPs] at e
    obtain ⟨σ1, e1, e2⟩ := Option.bind_eq_some_iff.mp e
    obtain ⟨σ2, e3, e4⟩ := Option.bind_eq_some_iff.mp e2
    cases e4
  | _ :: _ :: _ :: _ :: _, _, e =>
    simp only [bindPs] at e
    obtain ⟨σ1, e1, e2⟩ := Option.bind_eq_some_iff.mp e
    obtain ⟨σ2, e3, e4⟩ := Option.bind_eq_some_iff.mp e2
    obtain ⟨σ3, e5, e6⟩ := Option.bind_eq_some_iff.mp e4
    cases e6
end
end Cs
set_option Elab.async false
set_option linter.all false
set_option autoImplicit false
set_option maxRecDepth 100000
set_option maxHeartbeats 2000000
/-! Statements: y = [..]; raise. -/
namespace Cs
open PySem L2 PyProof.Rows
section
variable {X : Cx} {Z : WX} {b : Nat} {l : List Nat}
/-! ### y = [..] -/
def compScope : Expr → Option Scope
  | .ListComp _ _ s _ => some s
  | .SetComp _ _ s _ => some s
  | .DictComp _ _ _ s _ => some s
  | _ => none
/-- does the comprehension store itself? -/
def swB (sc : Scope) (v : Expr) (y : Str) (py : Pos) : Bool := match compScope v with
  | none => false
  | some s => (match sc.names.lookup y with | some .local => true | _ => false) && ((py.line == v.pos.line) && !(s.names.any fun (n, k) => n == y && (k == .local || k == .cell)))
theorem swB_def {env : Env} {v : Expr} {y : Str} {py : Pos} {line : Nat} (hk : env.scope.kind = .function) : swapsWith v (some (.Name y py)) line env = pure (swB env.scope v y py) := by
  have hb : env.blockKind = .function := by unfold Env.blockKind; rw [hk]; rfl
  unfold swapsWith swB
  cases v <;> first
    | rfl
    | (simp only [compScope, hb]
       have e : (env.kindOf y == some NameKind.local) = (match env.scope.names.lookup y with | some .local => true | _ => false) := by
         unfold Env.kindOf
         cases env.scope.names.lookup y with
         | none => rfl
         | some k => cases k <;> rfl
       rw [e]
       simp only [beq_self_eq_true, Bool.true_and, Bool.and_assoc])
theorem s_setLc {i : Nat} {y : Str} {py : Pos} {elt tg iter : Expr} {ifs : List Expr} {scope : Scope} {own : List (Str × Nat)} {pos spos : Pos} {p : Pt} {ri : Sl → K Iter} {rt : Sl → K Bool} {re : Sl → K Cs.W} {kk : Bool} (hc : X.calm = true) (hN : X.N.Nodup) (hy : X.N[i]? = some y) (hyl : X.env.scope.names.lookup y = some .local)
    (hsw : swapsWith (.ListComp elt [⟨tg, iter, ifs, 0⟩] scope pos) (some (.Name y py)) spos.line X.env = pure true) (hi : PI X tg iter (iR X Z b ri)) (ok : BlkOk X.N X.env.scope scope own) (hp : ∀ j ∈ asgdP p, j ∈ own.map (·.2))
    (hg : ∀ (s : Shared) (H : Hp) (C : Addr) (cl : List (Str × Addr)) (fp : List Addr), PG (X.blk s H scope (compEnvC scope cl C X.env) fp) tg (gP X.K p)) (ht : ∀ (s : Shared) (H : Hp) (C : Addr) (cl : List (Str × Addr)) (fp : List Addr), PTs (X.blk s H scope (compEnvC scope cl C X.env) fp) ifs (tT X Z0 b rt))
    (he : ∀ (s : Shared) (H : Hp) (C : Addr) (cl : List (Str × Addr)) (fp : List Addr), PE (X.blk s H scope (compEnvC scope cl C X.env) fp) elt (tR X Z0 b re)) (hs : ∀ x, foldedSetIterable iter X.env x = pure x) (hl : i ∈ l) :
    PS X (.Assign [.Name y py] (.ListComp elt [⟨tg, iter, ifs, 0⟩] scope pos) spos) (tS X Z b l fun σ => ((ri σ).bnd fun J => (foldK (cBody (own.map (·.2)) p rt re σ) J []).bnd fun r => lstW kk r.2).bnd fun w => (K.opt (bindP (.v i) w σ)).bnd fun σ' => K.pur (Fl.nx, σ')) := by
  refine ps_to (ps_setLc hc hN hy hyl hsw hi ok hg ht he hs) fun D σ H h => ?_
  refine tLc_of (k := kk) hp (h.ev.mono fun v H1 ⟨f, σ', M, w, s, r, h⟩ => ?_)
  have := asg_end (p := .v i) (l := l) (by intro j hj; simp only [asgdP, List.mem_singleton] at hj; subst hj; exact hl) s r h
  rw [gP] at this
  exact this
theorem s_setLc2 {i : Nat} {y : Str} {py : Pos} {elt tg iter tg1 iter1 : Expr} {scope : Scope} {own : List (Str × Nat)} {pos spos : Pos} {p p2 : Pt} {ri ri2 : Sl → K Iter} {re : Sl → K Cs.W} (hc : X.calm = true) (hN : X.N.Nodup) (hy : X.N[i]? = some y) (hyl : X.env.scope.names.lookup y = some .local)
    (hsw : swapsWith (.ListComp elt [⟨tg, iter, [], 0⟩, ⟨tg1, iter1, [], 0⟩] scope pos) (some (.Name y py)) spos.line X.env = pure true) (hi : PI X tg iter (iR X Z b ri)) (ok : BlkOk X.N X.env.scope scope own) (hp : ∀ j ∈ asgdP p, j ∈ own.map (·.2)) (hv : ∀ j ∈ asgdP p2, j ∈ own.map (·.2))
    (hg : ∀ (s : Shared) (H : Hp) (C : Addr) (cl : List (Str × Addr)) (fp : List Addr), PG (X.blk s H scope (compEnvC scope cl C X.env) fp) tg (gP X.K p))
    (hi1 : ∀ (s : Shared) (H : Hp) (C : Addr) (cl : List (Str × Addr)) (fp : List Addr), PI (X.blk s H scope (compEnvC scope cl C X.env) fp) tg1 iter1 (iR X Z0 b ri2))
    (hg1 : ∀ (s : Shared) (H : Hp) (C : Addr) (cl : List (Str × Addr)) (fp : List Addr), PG (X.blk s H scope (compEnvC scope cl C X.env) fp) tg1 (gP X.K p2))
    (he : ∀ (s : Shared) (H : Hp) (C : Addr) (cl : List (Str × Addr)) (fp : List Addr), PE (X.blk s H scope (compEnvC scope cl C X.env) fp) elt (tR X Z0 b re)) (hs : ∀ x, foldedSetIterable iter X.env x = pure x) (hs1 : ∀ env x, foldedSetIterable iter1 env x = pure x) (hl : i ∈ l) :
    PS X (.Assign [.Name y py] (.ListComp elt [⟨tg, iter, [], 0⟩, ⟨tg1, iter1, [], 0⟩] scope pos) spos) (tS X Z b l fun σ => ((ri σ).bnd fun J => (foldK (cBody2 (own.map (·.2)) p p2 ri2 re σ) J []).bnd fun r => lstW false r.2).bnd fun w => (K.opt (bindP (.v i) w σ)).bnd fun σ' => K.pur (Fl.nx, σ')) := by
  refine ps_to (ps_setLc2 hc hN hy hyl hsw hi ok hv hg (fun s H C cl fp => pts_nil) hi1 hg1 (fun s H C cl fp => pts_nil) he hs hs1) fun D σ H h => ?_
  refine tLc2_of (k := false) hp (h.ev.mono fun v H1 ⟨f, σ', M, w, s, r, h⟩ => ?_)
  have := asg_end (p := .v i) (l := l) (by intro j hj; simp only [asgdP, List.mem_singleton] at hj; subst hj; exact hl) s r h
  rw [gP] at this
  exact this
/-! ### raise -/
/-- a class of errors of the module, without an __init__ of its own -/
def ExcAt (X : Cx) (x : Str) : Prop := ∃ (C : Addr) (bmB : List Value) (B newId initId : String), ExcBaseFacts B newId initId bmB ∧ PySem.W.excIn X.K C bmB newId = true ∧ X.mg x = some (.ref C) ∧ PySem.W.keepIn X.K (.ref C) = true ∧ Raises X (.ref C)
theorem s_rai {O : Ora2} {x : Str} {e : Expr} {p p2 pos : Pos} {re : Sl → K Cs.W} (hc : X.calm = true) (tk : Takes X Z) (E : ExcAt X x) (ha : O.att x = some none) (hg : Gl X x) (hd : (x == ("__debug__" : Str)) = false) (he : PE X e (tR X Z b re)) (hs : starB e = true) :
    PS X (.Raise (some (.Call (.Name x p) [e] [] p2)) none pos) (tS X Z b l fun σ => (re σ).bnd fun w => (rd w).bnd fun y => (mkExc O x y).bnd fun e => K.rai e) := by
  obtain ⟨C, bmB, B, newId, initId, F, q, gC, kC, r⟩ := E
  refine ps_to (ps_raise hc tk (SkE.pmk_own1 F q gC kC r hg he (starB_def hs) hd)) fun D σ H h => h.ev.mono fun v H1 ⟨f, σ', M, y, s, ry, h⟩ => ?_
  obtain ⟨d, e1, h⟩ := h.rd
  unfold mkExc at h
  rw [ha] at h
  exact h f H1 .refl s.mem σ .refl (.ref C) none ⟨C, gC, rfl, rfl⟩
/-! ### try -/
/-- what an except clause answers -/
inductive HL (X : Cx) (O : Ora2) : Hs → List ExceptHandler → List (Value × (Addr → Value → Option Addr → TS)) → Prop
  | nil : HL X O .nil [] []
  | cons {x : Str} {c : Value} {d : PyData} {kk : Const} {j : Nat} {p1 p2 np pos' : Pos} {r : Hs} {hds : List ExceptHandler} {L : List (Value × (Addr → Value → Option Addr → TS))} (hc : Names X x c) (hd : conOf kk = some d)
      (hx : ∀ y ca, (O.att y).isSome = true → X.mg y = some (.ref ca) → PySem.W.exmOne X.K (.ref ca) c = some (O.sub y x)) (rest : HL X O r hds L) :
      HL X O (.cons x (.cons (.ret (.con d)) .nil) r) (.ExceptHandler (some (.Name x np)) none [.Return (some (.Constant kk j p1)) p2] pos' :: hds) ((c, fun _ _ _ => fun D _ H => ∀ v, (∀ C, DR X.K X.w H C v d) → D.rt v H) :: L)
theorem con_val {X : Cx} {kk : Const} {d : PyData} (e : conOf kk = some d) : ∃ v, (∀ j pos, ∀ Y : Cx, PE Y (.Constant kk j pos) (tC v)) ∧ ∀ H C, DR X.K X.w H C v d := by
  cases kk <;> simp only [conOf, Option.some.injEq, reduceCtorEq] at e <;> subst e
  · exact ⟨.non, fun _ _ _ => pe_non, fun _ _ => .non⟩
  · exact ⟨.bl _, fun _ _ _ => pe_bl, fun _ _ => .bl _⟩
  · exact ⟨.int _, fun _ _ _ => pe_int, fun _ _ => .int _⟩
  · exact ⟨.str _, fun _ _ _ => pe_str, fun _ _ => .str _⟩
theorem HL.ok {O : Ora2} : ∀ {hs : Hs} {hds : List ExceptHandler} {L : List (Value × (Addr → Value → Option Addr → TS))}, HL X O hs hds L → HdsOk X hds L
  | _, _, _, .nil => .nil
  | _, _, _, .cons hc hd hx r => by
    refine .cons hc (fun a oe cls d pn _ _ => ?_) (HL.ok r)
    obtain ⟨v, h1, h2⟩ := con_val (X := X) hd
    exact pss_to (pss_one (ps_ret (h1 _ _ _))) fun D σ H w => w v (h2 H)
theorem hl_many {O : Ora2} {D : Ends} {σV σV' : L2.St} {e : Exc} {cls : Value} {d : Option Addr} {f : Fm} {σ : Sl} {M : Mem} {H : Hp} (m : MemOk X.K X.w f M H) (sam : Sam l σV σV') (hx : ExcIs X e cls d H (isC f M)) :
    ∀ {hs : Hs} {hds : List ExceptHandler} {L : List (Value × (Addr → Value → Option Addr → TS))}, HL X O hs hds L → Then X.K X.w b f M H (exh O hs e σ M) (okS X D l σV) (erS X Z l σV) → wMany X.K Z D L cls d σV' H
  | _, _, _, .nil, h => h f H .refl m σV' sam cls d hx
  | _, _, _, .cons (x := x) (d := dd) (r := r) hc hd hxx rest, h => by
    obtain ⟨ca, h1, rfl, h2⟩ := id hx
    rw [exh] at h
    by_cases ha : (O.att e.cls).isSome = true
    · rw [if_pos ha] at h
      refine ⟨_, hxx e.cls ca ha h1, fun hb a _ v rv => ?_, fun hb => ?_⟩
      · rw [if_pos hb] at h
        exact h f H .refl m v (rv (isC f M))
      · rw [if_neg (by rw [hb]; exact Bool.false_ne_true)] at h
        exact hl_many m sam hx rest h
    · rw [if_neg ha] at h
      exact h.elim
theorem SlR.wiped {G : PySem.W.Frag} {w : World} {f f' : Fm} {M M' : Mem} {H H' : Hp} {σV σV' : L2.St} {σ : Sl} {lb : List Nat} (s : SlR G w f M H σV σ) (x : Ext b f M H f' M' H') (k : Sam lb σV σV') : SlR G w f' M' H' σV' (Cs.wipe σ lb) := by
  refine ⟨by rw [wipe_length, k.1]; exact s.1, fun i y e => ?_⟩
  rw [wipe_get] at e
  by_cases h : i ∈ lb
  · rw [if_pos h] at e
    split at e <;> cases e
  · rw [if_neg h] at e
    obtain ⟨v, e1, r⟩ := s.2 i y e
    exact ⟨v, by rw [k.2 i h]; exact e1, r.ext x⟩
theorem s_try {O : Ora2} {hs : Hs} {body : List Stmt} {h₀ : ExceptHandler} {hds : List ExceptHandler} {L : List (Value × (Addr → Value → Option Addr → TS))} {pos : Pos} {lb : List Nat} {rb : Sl → K (Fl × Sl)} (hst : X.stack = X.env :: X.outer) (hf : X.env.frame = some X.env.locals) (tk : Takes X Z)
    (hb : ∀ (W : WX) (pn : List (Addr × Obj)) (xe : Value → Shared → Prop), Takes (X.tr pn xe) W → PassesOwn (model X.prog X.w) X.A X.env xe → PSs (X.tr pn xe) body (tS (X.tr pn xe) W b lb rb))
    (hh : HL X O hs (h₀ :: hds) L) (hl : ∀ i ∈ lb, i ∈ l) :
    PS X (.Try body (h₀ :: hds) [] [] pos) (tS X Z b l fun σ => fun m => match rb σ m with
      | .exc e m' => exh O hs e (wipe σ lb) m'
      | r => r) := by
  refine ps_to (ps_try_many (tb := fun W => tS X W b lb rb) hst hf tk (fun W pn xe t p => pss_to (hb W pn xe t p) fun D σ H ⟨f, σ', M, ⟨m, hb', sl⟩, h⟩ => ⟨f, σ', M, ⟨m, hb', sl⟩, h⟩) hh.ok) fun D σV H ⟨f, σ, M, st, h⟩ => ⟨f, σ, M, st, ?_⟩
  dsimp only at h
  cases hr : rb σ M with
  | no => rw [hr] at h; exact h
  | ok r M' =>
    rw [hr] at h
    intro f' H' x m
    have q := h f' H' x m
    unfold okS at q ⊢
    split
    · rename_i e
      simp only [e] at q
      exact fun σV' s' k => q σV' s' (k.mono hl)
    · rename_i w e
      simp only [e] at q
      exact q
  | exc e M' =>
    rw [hr] at h
    intro f' H' x m σV' k cls d hx
    exact hl_many m (k.mono hl) hx hh (h.shift x m)
end
end Cs
set_option Elab.async false
set_option linter.all false
set_option autoImplicit false
set_option maxRecDepth 100000
set_option maxHeartbeats 2000000
/-! The checker of statements. -/
namespace Cs
open PySem L2 PyProof.Rows
def starE : Expr → Bool
  | .Starred .. => true
  | _ => false
def nmAt (sc : Scope) (line : Nat) (e : Expr) : Option Str := match e with
  | .Name id pos => if (match sc.names.lookup id with | some .local => true | _ => false) && pos.line == line then some id else none
  | _ => none
def locNames (sc : Scope) (line : Nat) (ts : List Expr) : List Str := ts.filterMap (nmAt sc line)
/-- the stores of a, b = x, y are swapped: the names -/
def swapNames (sc : Scope) (ts vs : List Expr) : Option (List Str) :=
  if !(ts.length == 2 || ts.length == 3) || vs.length != ts.length then none
  else if vs.any starE then none
  else
    let names := locNames sc ((ts.head?.map (·.pos.line)).getD 0) ts
    if names.length != ts.length || names.eraseDups.length != names.length then none
    else if vs.all (foldedForSure 8) then none
    else some names
def swapOk (vs : List Expr) : Bool := vs.all (foldedForSure 8) || !vs.all (constantsAlone 8)
theorem kind_loc {env : Env} {id : Str} : (env.kindOf id == some NameKind.local) = (match env.scope.names.lookup id with | some .local => true | _ => false) := by
  unfold Env.kindOf
  cases env.scope.names.lookup id with
  | none => rfl
  | some k => cases k <;> rfl
theorem swap_def {env : Env} {ts vs : List Expr} {k k2 : Nat} {p p2 : Pos} (hk : env.scope.kind = .function) (ok : swapOk vs = true) : swappedStores [.Tuple ts k p] (.Tuple vs k2 p2) env = pure (swapNames env.scope ts vs) := by
  have hb : env.blockKind = .function := by unfold Env.blockKind; rw [hk]; rfl
  have any_eq : ∀ f : Expr → Bool, (∀ e, f e = starE e) → vs.any f = vs.any starE := fun f h => by rw [funext h]
  have fm_eq : ∀ (f : Expr → Option Str), (∀ e, f e = nmAt env.scope ((ts.head?.map (·.pos.line)).getD 0) e) → ts.filterMap f = locNames env.scope ((ts.head?.map (·.pos.line)).getD 0) ts := fun f h => by rw [funext h]; rfl
  unfold swappedStores swapNames
  simp only [hb, bne_self_eq_false, Bool.or_false]
  rw [any_eq _ (by intro e; cases e <;> rfl), fm_eq _ (by
    intro e
    cases e with
    | Name id pos => simp only [nmAt, kind_loc]
    | _ => rfl)]
  split
  · rfl
  split
  · rfl
  split
  · rfl
  split
  · rfl
  · rename_i h4
    unfold swapOk at ok
    have : vs.all (constantsAlone 8) = false := by
      cases h : vs.all (constantsAlone 8) with
      | false => rfl
      | true => simp [h] at ok; simp_all
    rw [this]
    rfl
end Cs
set_option Elab.async false
set_option linter.all false
set_option autoImplicit false
set_option maxRecDepth 100000
set_option maxHeartbeats 2000000
/-! A def is left. -/
namespace Cs
open PySem L2 PyProof.Rows
section
variable {G : PySem.W.Frag} {w : World} {b n0 : Nat} {f f' : Fm} {M M' : Mem} {H H' : Hp}
theorem isC_take {a : Addr} (h : isC f' (M'.take n0) a) : isC f' M' a := by
  rcases h with ⟨n, hn, q⟩ | q
  · exact .inl ⟨n, by simp at hn; omega, q⟩
  · exact .inr q
theorem RW.take {v : V} : ∀ {y : W}, RW G w f' M' H' v y → (∀ m ∈ y.refs, m < n0) → n0 ≤ M'.length → RW G w f' (M'.take n0) H' v y
  | .d _, h, _, _ => DR.mono (fun _ => isC_take) h
  | .c n, ⟨h, e⟩, hr, hl => ⟨by have := hr n (by simp [W.refs]); simp; omega, e⟩
theorem RWs.take : ∀ {vs : List V} {ws : List W}, RWs G w f' M' H' vs ws → (∀ m ∈ ws.flatMap W.refs, m < n0) → n0 ≤ M'.length → RWs G w f' (M'.take n0) H' vs ws
  | [], [], _, _, _ => trivial
  | _ :: _, y :: ws, ⟨h, r⟩, hr, hl => ⟨h.take (fun m hm => hr m (by rw [List.flatMap_cons]; exact List.mem_append_left _ hm)) hl, RWs.take r (fun m hm => hr m (by rw [List.flatMap_cons]; exact List.mem_append_right _ hm)) hl⟩
  | [], _ :: _, h, _, _ => h.elim
  | _ :: _, [], h, _, _ => h.elim
theorem RWk.take : ∀ {es : List DictEntry} {ws : List (PyData × W)}, RWk G w f' M' H' es ws → (∀ m ∈ ws.flatMap (fun p => p.2.refs), m < n0) → n0 ≤ M'.length → RWk G w f' (M'.take n0) H' es ws
  | [], [], _, _, _ => trivial
  | _ :: _, (_, y) :: ws, ⟨⟨kv, vv, a, b, c, d, e⟩, r⟩, hr, hl => ⟨⟨kv, vv, a, b, c, DR.mono (fun _ => isC_take) d, e.take (fun m hm => hr m (by rw [List.flatMap_cons]; exact List.mem_append_left _ hm)) hl⟩, RWk.take r (fun m hm => hr m (by rw [List.flatMap_cons]; exact List.mem_append_right _ hm)) hl⟩
  | [], _ :: _, h, _, _ => h.elim
  | _ :: _, [], h, _, _ => h.elim
/-- the cells of the def are gone -/
theorem MemOk.take (m0 : MemOk G w f M H) (x : Ext M.length f M H f' M' H') (m : MemOk G w f' M' H') (hb : b ≤ M.length) : MemOk G w f' (M'.take M.length) H' ∧ Ext b f M H f' (M'.take M.length) H' := by
  have hl := x.len
  have hlen : (M'.take M.length).length = M.length := by simp; omega
  have cl : Closed M.length M' := x.pres M.length (Nat.le_refl _) m0.closed
  have at_ : ∀ {n : Nat} {c : Cell}, (M'.take M.length)[n]? = some c → n < M.length ∧ M'[n]? = some c := fun {n c} e => by
    rw [List.getElem?_take] at e
    split at e
    · exact ⟨‹_›, e⟩
    · cases e
  refine ⟨⟨fun n c e => ?_, fun i j hi hj => m.inj i j (by rw [hlen] at hi; omega) (by rw [hlen] at hj; omega), fun n hn => m.vis n (by rw [hlen] at hn; omega), m.hidL, fun P q h => (m.tab P q h).stay (fun a o e _ n => ⟨e, fun hc => n (hc.elim (fun ⟨k, hk, z⟩ => .inl ⟨k, by rw [hlen] at hk; omega, z⟩) .inr)⟩) fun _ e => e, m.own⟩, ⟨by omega, x.same, x.keepV, fun n h1 h2 => absurd h2 (by rw [hlen]; omega), fun c hc h n c' hn e => ?_, x.hidU, x.hidN, x.sameT⟩⟩
  · obtain ⟨hn, e⟩ := at_ e
    have hc := m.cell n c e
    have hr := cl n c hn e
    cases c with
    | lst ws => obtain ⟨vs, q, r, l⟩ := hc; exact ⟨vs, q, r.take hr hl, l⟩
    | dic kvs => obtain ⟨ns, es, ep, q, r, k⟩ := hc; exact ⟨ns, es, ep, q, r.take hr hl, k⟩
    | obj o => exact ObOk.stay (fun a o e _ n => ⟨e, fun hc => n (hc.elim (fun ⟨k, hk, z⟩ => .inl ⟨k, by rw [hlen] at hk; omega, z⟩) .inr)⟩) rfl hc
  · obtain ⟨_, e⟩ := at_ e
    exact x.pres c (Nat.le_trans hc hb) h n c' hn e
/-- a value closed: its own cells as data -/
theorem frz_ok (m : MemOk G w f' M' H') : ∀ (fuel : Nat) (y : W) (v : V) (d : PyData), RW G w f' M' H' v y → frz n0 fuel M' y = some d → DR G w H' (isC f' (M'.take n0)) v d := by
  intro fuel
  induction fuel with
  | zero =>
    intro y v d r e
    cases y with
    | d x => simp only [frz, Option.some.injEq] at e; subst e; exact DR.mono (fun _ => isC_take) r
    | c n => simp [frz] at e
  | succ fuel ih =>
    intro y v d r e
    cases y with
    | d x => simp only [frz, Option.some.injEq] at e; subst e; exact DR.mono (fun _ => isC_take) r
    | c n =>
      obtain ⟨hn, rfl⟩ := r
      rw [frz] at e
      split at e
      · cases e
      · rename_i hn0
        have nc : ¬ isC f' (M'.take n0) (f' n) := fun h => by
          rcases h with ⟨k, hk, q⟩ | q
          · simp at hk
            have := m.inj k n (by omega) hn q
            omega
          · exact m.vis n hn q
        have hc := m.cell n _ (List.getElem?_eq_getElem hn)
        rw [List.getElem?_eq_getElem hn] at e
        have many : ∀ (ws : List W) (vs : List V) (ds : List PyData), RWs G w f' M' H' vs ws → ws.mapM (frz n0 fuel M') = some ds → DRs G w H' (isC f' (M'.take n0)) vs ds := by
          intro ws
          induction ws with
          | nil => intro vs ds r e; simp at e; subst e; cases vs with | nil => exact .nil | cons _ _ => exact r.elim
          | cons y ws ih2 =>
            intro vs ds r e
            cases vs with
            | nil => exact r.elim
            | cons v vs =>
              rw [List.mapM_cons] at e
              cases h1 : frz n0 fuel M' y with
              | none => simp [h1] at e
              | some d1 =>
                cases h2 : ws.mapM (frz n0 fuel M') with
                | none => simp [h1, h2] at e
                | some d2 =>
                  simp [h1, h2] at e
                  subst e
                  exact .cons (ih y v d1 r.1 h1) (ih2 vs d2 r.2 h2)
        have manyK : ∀ (kvs : List (PyData × W)) (es : List DictEntry) (ds : List (PyData × PyData)), RWk G w f' M' H' es kvs → kvs.mapM (fun p => (frz n0 fuel M' p.2).map fun x => (p.1, x)) = some ds → DRk G w H' (isC f' (M'.take n0)) es ds ∧ ds.map (·.1) = kvs.map (·.1) := by
          intro kvs
          induction kvs with
          | nil => intro es ds r e; simp at e; subst e; cases es with | nil => exact ⟨.nil, rfl⟩ | cons _ _ => exact r.elim
          | cons p kvs ih2 =>
            intro es ds r e
            obtain ⟨kd, y⟩ := p
            cases es with
            | nil => exact r.elim
            | cons en es =>
              obtain ⟨⟨kv, vv, a1, a2, a3, a4, a5⟩, r2⟩ := r
              rw [List.mapM_cons] at e
              cases h1 : frz n0 fuel M' y with
              | none => simp [h1] at e
              | some d1 =>
                cases h2 : kvs.mapM (fun p => (frz n0 fuel M' p.2).map fun x => (p.1, x)) with
                | none => simp [h1, h2] at e
                | some d2 =>
                  simp [h1, h2] at e
                  subst e
                  obtain ⟨q1, q2⟩ := ih2 es d2 r2 h2
                  exact ⟨.cons a1 a2 a3 (DR.mono (fun _ => isC_take) a4) (ih y vv d1 a5 h1) q1, by simp [q2]⟩
        cases hM : M'[n] with
        | lst ws =>
          rw [hM] at hc
          simp only [hM] at e
          obtain ⟨ds, e1, rfl⟩ := Option.map_eq_some_iff.mp e
          obtain ⟨vs, q, r, _⟩ := hc
          exact .lst ⟨.inl q, nc⟩ (many ws vs ds r e1)
        | dic kvs =>
          rw [hM] at hc
          simp only [hM] at e
          obtain ⟨ds, e1, rfl⟩ := Option.map_eq_some_iff.mp e
          obtain ⟨ns, es, ep, q, r, kk⟩ := hc
          obtain ⟨q1, q2⟩ := manyK kvs es ds r e1
          refine .dic ⟨ns, .inl ⟨ep, q, nc⟩⟩ q1 ⟨fun p hp => ?_, ?_, ?_⟩
          · have : p.1 ∈ kvs.map (·.1) := by rw [← q2]; exact List.mem_map_of_mem hp
            obtain ⟨p', hp', e'⟩ := List.mem_map.mp this
            rw [← e']; exact kk.key p' hp'
          · have : ds.map (fun p => nk p.1) = kvs.map fun p => nk p.1 := by
              have := congrArg (List.map nk) q2
              simpa [List.map_map, Function.comp_def] using this
            rw [this]; exact kk.nd
          · have : ds.length = kvs.length := by
              have := congrArg List.length q2
              simpa using this
            rw [this]; exact kk.len
        | obj o => rw [hM] at e; cases e
end
end Cs
set_option Elab.async false
set_option linter.all false
set_option autoImplicit false
set_option maxRecDepth 100000
set_option maxHeartbeats 2000000
/-! Every statement that the checker lets through does what the interpreter says. -/
namespace Cs
open PySem L2 PyProof.Rows
def funB (sc : Scope) : Bool := match sc.kind with
  | .function => true
  | _ => false
def isComp (e : Expr) : Bool := (compScope e).isSome
def isTupE : Expr → Bool
  | .Tuple _ _ _ => true
  | _ => false
def locOnly (sc : Scope) (x : Str) : Bool := match sc.names.lookup x with
  | some .local => true
  | _ => false
/-- a target and a value that are stored plainly -/
def plainB (c : CEnv) (tg v : Expr) : Bool := match tg, v with
  | .Name y py, v => !swB c.sc v y py
  | .Tuple ts _ _, .Tuple vs _ _ => swapOk vs && (swapNames c.sc ts vs).isNone
  | .Tuple _ _ _, v => true
  | _, _ => false
/-- a, b = x, y (three of them, too), the stores swapped -/
def parB (c : CEnv) : Pts → List Expr → List Expr → Bool
  | .cons (.v i) (.cons (.v j) .nil), [.Name x px, .Name y py], [a, d] => (c.N[i]? == some x) && ((c.N[j]? == some y) && (decide (i ≠ j) && (locOnly c.sc x && (locOnly c.sc y && (swapOk [a, d] &&
      (swapNames c.sc [.Name x px, .Name y py] [a, d] == some [x, y]))))))
  | .cons (.v i) (.cons (.v j) (.cons (.v m) .nil)), [.Name x px, .Name y py, .Name z pz], [a, d, e] => (c.N[i]? == some x) && ((c.N[j]? == some y) && ((c.N[m]? == some z) && (decide (i ≠ j) && (decide (i ≠ m) && (decide (j ≠ m) &&
      (locOnly c.sc x && (locOnly c.sc y && (locOnly c.sc z && (swapOk [a, d, e] && (swapNames c.sc [.Name x px, .Name y py, .Name z pz] [a, d, e] == some [x, y, z]))))))))))
  | _, _, _ => false
def lenSs : Ss → Nat
  | .nil => 0
  | .cons _ r => lenSs r + 1
  | .blk b _ r => lenSs b + lenSs r
mutual
def chkS (c : CEnv) : S → Stmt → Bool
  | .asg p e, .Assign [tg] v _ => chkP c.N (tgB c.rs) p tg && (chkE c e v && (plainB c tg v || compB c p e tg v))
  | .asgs ps es, .Assign [.Tuple ts _ _] (.Tuple vs _ _) _ => parB c ps ts vs && chkEs c es vs
  | .asgt ps es, .Assign [.Tuple ts k p] (.Tuple vs _ _) _ => chkP c.N (tgB c.rs) (.tup ps) (.Tuple ts k p) && (chkEs c es vs && (decide (lenPs ps < 100) && (swapOk vs && (swapNames c.sc ts vs).isNone)))
  | .put a i e, .Assign [.Subscript x y _] v _ => plainIxB y && (chkE c e v && (chkE c a x && chkE c i y))
  | .ex e, .Expr v _ => !isComp v && chkE c e v
  | .ite d a b, .If x p q _ => chkE c d x && (chkSs c a p && chkSs c b q)
  | .for_ p it b, .For tg iter body [] _ => chkP c.N (tgB c.rs) p tg && (chkI c it tg iter && (setB iter && chkSs c b body))
  | .while_ d b, .While x body [] _ => chkE c d x && chkSs c b body
  | .ret e, .Return (some v) _ => chkE c e v
  | .retN, .Return none _ => true
  | .pass, .Pass _ => true
  | .stuck, _ => true
  | .rai cls a, .Raise (some (.Call (.Name x _) [v] [] _)) none _ => (x == cls) && (glB c.sc x && (c.es.contains x && (nmB x && chkE c a v)))
  | .raif cls a, .Raise (some (.Call (.Name x _) [v] [] _)) none _ => (x == cls) && (glB c.sc x && (c.cd.ef.any (fun p => p.1 == x) && (nmB x && chkE c a v)))
  | .try_ b hs, .Try body (h :: hds) [] [] _ => chkSs c b body && chkH c hs (h :: hds)
  | _, _ => false
def chkSs (c : CEnv) : Ss → List Stmt → Bool
  | .nil, [] => true
  | .cons s r, x :: xs => chkS c s x && chkSs c r xs
  | .blk b _ r, xs => chkSs c b (xs.take (lenSs b)) && chkSs c r (xs.drop (lenSs b))
  | _, _ => false
def chkH (c : CEnv) : Hs → List ExceptHandler → Bool
  | .nil, [] => true
  | .cons x (.cons (.ret (.con d)) .nil) r, .ExceptHandler (some (.Name y _)) none [.Return (some (.Constant kk _ _)) _] _ :: hds => (x == y) && (glB c.sc y && (nmB y && (c.cd.hd.contains y && (conB kk d && chkH c r hds))))
  | _, _ => false
/-- y = [..] that stores itself -/
def compB (c : CEnv) : Pt → E → Expr → Expr → Bool
  | .v i, .comp _ _ _ _ _ _, .Name y py, v => locOnly c.sc y
  | .v i, .comp2 _ _ _ _ _ _, .Name y py, v => locOnly c.sc y
  | _, _, _, _ => false
end
noncomputable def ora2 (b : Nat) (J : Info) (k : Nat) : Ora2 := ⟨ora b J k, J.att, J.sub⟩
structure GoodS (X : Cx) (Z : WX) (b : Nat) (J : Info) (k dp : Nat) (c : CEnv) : Prop where
  g : Good X Z b J k dp c
  fk : X.env.scope.kind = .function
  pass : PassesOwn (model X.prog X.w) X.A X.env X.xe
  stk : X.stack = X.env :: X.outer
  frm : X.env.frame = some X.env.locals
  exc : ∀ x ∈ c.es, ExcAt X x ∧ J.att x = some none
  exf : ∀ p ∈ c.cd.ef, J.att p.1 = some (some p.2)
  exm : ∀ x ∈ c.cd.hd, ∃ cx : Addr, X.mg x = some (.ref cx) ∧ ∀ y ca, (J.att y).isSome = true → X.mg y = some (.ref ca) → PySem.W.exmOne X.K (.ref ca) (.ref cx) = some (J.sub y x)
theorem GoodS.tr {X : Cx} {Z : WX} {b : Nat} {J : Info} {k dp : Nat} {c : CEnv} (G : GoodS X Z b J k dp c) {W : WX} {pn : List (Addr × Obj)} {xe : Value → Shared → Prop} (t : Takes (X.tr pn xe) W) (p : PassesOwn (model X.prog X.w) X.A X.env xe) :
    GoodS (X.tr pn xe) W b J k dp c :=
  ⟨⟨G.g.calm, G.g.nd, G.g.un, t, G.g.N, G.g.sc, G.g.tgt, G.g.blt, G.g.glob, G.g.tups, G.g.fns, G.g.room, fun z => have q := G.g.lam z; ⟨q.room, q.tb, q.hp⟩, G.g.dp2, G.g.cls.at_ rfl rfl rfl rfl rfl⟩, G.fk, p, G.stk, G.frm, G.exc, G.exf, G.exm⟩
section
variable (J : Info) (k : Nat)
def MS (S : S) : Prop := ∀ (X : Cx) (Z : WX) (b dp : Nat) (c : CEnv) (l : List Nat), GoodS X Z b J k dp c → (∀ i ∈ asgd S, i ∈ l) → ∀ st, chkS c S st = true → PS X st (tS X Z b l fun σ => ex (ora2 b J k) S σ)
def MSs (S : Ss) : Prop := ∀ (X : Cx) (Z : WX) (b dp : Nat) (c : CEnv) (l : List Nat), GoodS X Z b J k dp c → (∀ i ∈ asgdS S, i ∈ l) → ∀ st, chkSs c S st = true → PSs X st (tS X Z b l fun σ => exs (ora2 b J k) S σ)
end
section
variable {J : Info} {k : Nat}
theorem locOnly_def {sc : Scope} {x : Str} (h : locOnly sc x = true) : sc.names.lookup x = some .local := by
  unfold locOnly at h
  split at h
  · assumption
  · cases h
theorem n_ite {d : E} {a b : Ss} (ha : MSs J k a) (hb : MSs J k b) : MS J k (.ite d a b) := by
  intro X Z b0 dp c l G hl st h
  cases st with
  | «If» x p q pos =>
    have h : (chkE c d x && (chkSs c a p && chkSs c b q)) = true := h
    simp only [Bool.and_eq_true] at h
    have hl1 : ∀ i ∈ asgdS a, i ∈ l := fun i hi => hl i (by rw [asgd]; exact List.mem_append_left _ hi)
    have hl2 : ∀ i ∈ asgdS b, i ∈ l := fun i hi => hl i (by rw [asgd]; exact List.mem_append_right _ hi)
    exact s_if (mE J k d X Z b0 dp c G.g x h.1).2.2.1 (ha X Z b0 dp c l G hl1 p h.2.1) (hb X Z b0 dp c l G hl2 q h.2.2)
  | _ => exact Bool.noConfusion h
theorem n_for {p : Pt} {it : I} {b : Ss} (hb : MSs J k b) : MS J k (.for_ p it b) := by
  intro X Z b0 dp c l G hl st h
  cases st with
  | For tg iter body els pos =>
    cases els with
    | cons _ _ => exact Bool.noConfusion h
    | nil =>
      have h : (chkP c.N (tgB c.rs) p tg && (chkI c it tg iter && (setB iter && chkSs c b body))) = true := h
      simp only [Bool.and_eq_true] at h
      have hl1 : ∀ i ∈ asgdP p, i ∈ l := fun i hi => hl i (by rw [asgd]; exact List.mem_append_left _ hi)
      have hl2 : ∀ i ∈ asgdS b, i ∈ l := fun i hi => hl i (by rw [asgd]; exact List.mem_append_right _ hi)
      exact s_for G.pass G.g.calm (mI J k it X Z b0 dp c G.g tg iter h.2.1) (G.g.pg h.1) (hb X Z b0 dp c l G hl2 body h.2.2.2) (setB_def h.2.2.1) hl1
  | _ => exact Bool.noConfusion h
theorem n_while {d : E} {b : Ss} (hb : MSs J k b) : MS J k (.while_ d b) := by
  intro X Z b0 dp c l G hl st h
  cases st with
  | While x body els pos =>
    cases els with
    | cons _ _ => exact Bool.noConfusion h
    | nil =>
      have h : (chkE c d x && chkSs c b body) = true := h
      simp only [Bool.and_eq_true] at h
      exact s_while G.pass (mE J k d X Z b0 dp c G.g x h.1).2.2.1 (hb X Z b0 dp c l G (fun i hi => hl i (by rw [asgd]; exact hi)) body h.2)
  | _ => exact Bool.noConfusion h
theorem n_ret {e : E} : MS J k (.ret e) := by
  intro X Z b0 dp c l G hl st h
  cases st with
  | Return v pos =>
    cases v with
    | none => exact Bool.noConfusion h
    | some v => exact s_ret (mE J k e X Z b0 dp c G.g v h).2.1
  | _ => exact Bool.noConfusion h
theorem n_retN : MS J k .retN := by
  intro X Z b0 dp c l G hl st h
  cases st with
  | Return v pos =>
    cases v with
    | none => exact s_retN
    | some v => exact Bool.noConfusion h
  | _ => exact Bool.noConfusion h
theorem n_stuck : MS J k .stuck := by
  intro X Z b0 dp c l G hl st h
  exact ⟨fun pins s σ H D I ⟨f, σ', M, _, w⟩ => w.elim⟩
theorem n_pass : MS J k .pass := by
  intro X Z b0 dp c l G hl st h
  cases st with
  | Pass pos => exact s_pass
  | _ => exact Bool.noConfusion h
theorem n_ex {e : E} : MS J k (.ex e) := by
  intro X Z b0 dp c l G hl st h
  cases st with
  | «Expr» v pos =>
    have h : (!isComp v && chkE c e v) = true := h
    simp only [Bool.and_eq_true, Bool.not_eq_true'] at h
    exact s_ex (mE J k e X Z b0 dp c G.g v h.2).2.1 (by cases v <;> first | rfl | simp [isComp, compScope] at h)
  | _ => exact Bool.noConfusion h
theorem n_nil : MSs J k .nil := by
  intro X Z b0 dp c l G hl st h
  cases st with
  | nil => exact s_nil
  | cons _ _ => exact Bool.noConfusion h
theorem n_cons {s : S} {r : Ss} (hs : MS J k s) (hr : MSs J k r) : MSs J k (.cons s r) := by
  intro X Z b0 dp c l G hl st h
  cases st with
  | nil => exact Bool.noConfusion h
  | cons x xs =>
    have h : (chkS c s x && chkSs c r xs) = true := h
    simp only [Bool.and_eq_true] at h
    exact s_seq (hs X Z b0 dp c l G (fun i hi => hl i (by rw [asgdS]; exact List.mem_append_left _ hi)) x h.1) (hr X Z b0 dp c l G (fun i hi => hl i (by rw [asgdS]; exact List.mem_append_right _ hi)) xs h.2)
end
end Cs
set_option Elab.async false
set_option linter.all false
set_option autoImplicit false
set_option maxRecDepth 100000
set_option maxHeartbeats 2000000
/-! raise of an error with a field. -/
namespace Cs
open PySem L2 PyProof.Rows
section
variable {X : Cx} {Z : WX} {b dp : Nat} {l : List Nat}
theorem s_raiF {x fld : Str} {e : Expr} {p p2 pos : Pos} {re : Sl → K Cs.W} (hc : X.calm = true) (tk : Takes X Z) (E : ExcAtF X dp x fld) (hr : Room dp X.A) (hx : Passes C8.CX0 X (fun _ _ _ => False)) (hg : Gl X x) (hd : (x == ("__debug__" : Str)) = false) (he : PE X e (tR X Z b re)) (hs : starB e = true) :
    PS X (.Raise (some (.Call (.Name x p) [e] [] p2)) none pos) (tS X Z b l fun σ => (re σ).bnd fun w => (dat w).bnd fun y => K.rai ⟨x, some (fld, y)⟩) := by
  obtain ⟨C, fI, fd, slf, par, k, T, hno, gC, iC, tI, F1, hb, hk⟩ := E
  have ha : PA X [e] (tCons (tR X Z b re) tNil) := pa_cons he pa_nil (starB_def hs)
  refine ps_to (ps_raise hc tk (pmk_oex (dvs := []) T iC tI F1 (hr.mono hk) hb .nil hx hg gC ha hd (starB_def hs) rfl)) fun D σ H h => ?_
  refine h.ev.mono fun v H1 ⟨f, σ', M, y, s, ry, h⟩ => ?_
  refine ⟨by simp, fun a h1 => ?_⟩
  refine ⟨a, C, v, rfl, T, hno, upd_same, fun dx h2 hda => ?_⟩
  have h2' : H1 dx = none := by rw [upd_ne hda] at h2; exact h2
  refine ⟨rfl, dx, [(fld, v)], upd_same, by rw [upd_ne hda]; exact upd_same, h2', ?_⟩
  have e1 : upd (del (upd (upd (upd H1 a (exo a C none)) dx (exd dx [(fld, v)])) a (exo a C (some dx))) a) dx (.xd [(fld, v)]) = upd H1 dx (.xd [(fld, v)]) := by
    funext c
    by_cases hcd : c = dx
    · rw [hcd, upd_same, upd_same]
    · rw [upd_ne hcd, upd_ne hcd]
      by_cases hca : c = a
      · rw [hca, del_same, h1]
      · rw [del_ne hca, upd_ne hca, upd_ne hcd, upd_ne hca]
  rw [e1]
  obtain ⟨m', x'⟩ := s.mem.lay (b := b) (o := .xd [(fld, v)]) h2'
  cases y with
  | c n => exact (show False from h).elim
  | d z =>
    have h : Then X.K X.w b f M H1 (K.rai ⟨x, some (fld, z)⟩ M) (okS X D l σ) (erS X Z l σ) := h
    exact h f _ x' m' σ .refl (.ref C) (some dx) ⟨C, gC, rfl, dx, v, rfl, upd_same, DR.stay x'.stay ry⟩
end
end Cs
set_option Elab.async false
set_option linter.all false
set_option autoImplicit false
set_option maxRecDepth 100000
set_option maxHeartbeats 2000000
namespace Cs
open PySem L2 PyProof.Rows
section
variable {J : Info} {k : Nat}
theorem n_put {a i e : E} : MS J k (.put a i e) := by
  intro X Z b0 dp c l G hl st h
  cases st with
  | Assign ts v pos =>
    match ts, h with
    | [.Subscript x y p], h =>
      have h : (plainIxB y && (chkE c e v && (chkE c a x && chkE c i y))) = true := h
      simp only [Bool.and_eq_true] at h
      exact s_put h.1 G.g.un (mE J k e X Z b0 dp c G.g v h.2.1).2.1 (mE J k a X Z b0 dp c G.g x h.2.2.1).2.1 (mE J k i X Z b0 dp c G.g y h.2.2.2).2.1
  | _ => exact Bool.noConfusion h
theorem n_rai {cls : Str} {a : E} : MS J k (.rai cls a) := by
  intro X Z b0 dp c l G hl st h
  cases st with
  | Raise exc cause pos =>
    match exc, cause, h with
    | some (.Call (.Name x p) [v] [] p2), none, h =>
      have h : ((x == cls) && (glB c.sc x && (c.es.contains x && (nmB x && chkE c a v)))) = true := h
      simp only [Bool.and_eq_true, nmB, Bool.not_eq_true'] at h
      obtain ⟨q1, q2, q3, ⟨q4, _⟩, q5⟩ := h
      have := eq_of_beq q1
      subst this
      obtain ⟨e1, e2⟩ := G.exc x (by simpa using q3)
      obtain ⟨s1, s2, _⟩ := mE J k a X Z b0 dp c G.g v q5
      exact s_rai (O := ora2 b0 J k) G.g.calm G.g.tk e1 e2 (glB_def (by rw [G.g.sc]; exact q2)) q4 s2 s1
  | _ => exact Bool.noConfusion h
theorem n_raif {cls : Str} {a : E} : MS J k (.raif cls a) := by
  intro X Z b0 dp c l G hl st h
  cases st with
  | Raise exc cause pos =>
    match exc, cause, h with
    | some (.Call (.Name x p) [v] [] p2), none, h =>
      have h : ((x == cls) && (glB c.sc x && (c.cd.ef.any (fun p => p.1 == x) && (nmB x && chkE c a v)))) = true := h
      simp only [Bool.and_eq_true, nmB, Bool.not_eq_true'] at h
      obtain ⟨q1, q2, q3, ⟨q4, _⟩, q5⟩ := h
      have := eq_of_beq q1
      subst this
      obtain ⟨r, hr, er⟩ := List.any_eq_true.mp q3
      have := eq_of_beq er
      subst this
      obtain ⟨s1, s2, _⟩ := mE J k a X Z b0 dp c G.g v q5
      have E := G.g.cls.ef r hr
      refine ps_to (s_raiF (l := l) (fld := r.2) G.g.calm G.g.tk E.2 G.g.room pass0 (glB_def (by rw [G.g.sc]; exact q2)) q4 s2 s1) fun D σ H w => ?_
      have e : (fun σ => ex (ora2 b0 J k) (.raif r.1 a) σ) = fun σ => (ev (ora b0 J k) σ a).bnd fun w => (dat w).bnd fun y => K.rai ⟨r.1, some (r.2, y)⟩ := funext fun σ => by
        simp only [ex]
        have : ∀ y, mkExc (ora2 b0 J k) r.1 y = K.pur ⟨r.1, some (r.2, y)⟩ := fun y => by
          unfold mkExc
          show (match J.att r.1 with | some none => _ | some (some a) => _ | none => _) = _
          rw [G.exf r hr]
        simp only [this, K.pur_bnd]
        rfl
      rw [← e]
      exact w
  | _ => exact Bool.noConfusion h
theorem chkH_inv {c : CEnv} {x : Str} {bd : Ss} {r : Hs} {hd : ExceptHandler} {hds : List ExceptHandler} (h : chkH c (.cons x bd r) (hd :: hds) = true) :
    ∃ d y np kk j p1 p2 pos', bd = .cons (.ret (.con d)) .nil ∧ hd = .ExceptHandler (some (.Name y np)) none [.Return (some (.Constant kk j p1)) p2] pos' := by
  cases bd with
  | cons s b2 => cases s with
    | ret e => cases e with
      | con d => cases b2 with
        | nil => cases hd with
          | ExceptHandler ty nm body pos => cases ty with
            | none => exact Bool.noConfusion h
            | some ty => cases ty with
              | Name y np => cases nm with
                | some _ => exact Bool.noConfusion h
                | none => cases body with
                  | nil => exact Bool.noConfusion h
                  | cons st rest => cases st with
                    | Return v p2 => cases v with
                      | none => exact Bool.noConfusion h
                      | some v => cases v with
                        | Constant kk j p1 => cases rest with
                          | nil => exact ⟨d, y, np, kk, j, p1, p2, pos, rfl, rfl⟩
                          | cons _ _ => exact Bool.noConfusion h
                        | _ => exact Bool.noConfusion h
                    | _ => exact Bool.noConfusion h
              | _ => exact Bool.noConfusion h
        | _ => exact Bool.noConfusion h
      | _ => exact Bool.noConfusion h
    | _ => exact Bool.noConfusion h
  | _ => exact Bool.noConfusion h
theorem chkH_nil {c : CEnv} {x : Str} {bd : Ss} {r : Hs} (h : chkH c (.cons x bd r) [] = true) : False := by
  cases bd with
  | cons s b2 => cases s with
    | ret e => cases e with
      | con d => cases b2 with
        | nil => exact Bool.noConfusion h
        | _ => exact Bool.noConfusion h
      | _ => exact Bool.noConfusion h
    | _ => exact Bool.noConfusion h
  | _ => exact Bool.noConfusion h
theorem hl_of {X : Cx} {Z : WX} {b0 dp : Nat} {c : CEnv} (G : GoodS X Z b0 J k dp c) : ∀ (hs : Hs) (hds : List ExceptHandler), chkH c hs hds = true → ∃ L, HL X (ora2 b0 J k) hs hds L
  | .nil, hds, h => by
    cases hds with
    | nil => exact ⟨[], .nil⟩
    | cons _ _ => exact Bool.noConfusion h
  | .cons x bd r, hds, h => by
    cases hds with
    | nil => exact (chkH_nil h).elim
    | cons hd hds =>
      obtain ⟨d, y, np, kk, j, p1, p2, pos', e1, e2⟩ := chkH_inv h
      subst e1 e2
      have h : ((x == y) && (glB c.sc y && (nmB y && (c.cd.hd.contains y && (conB kk d && chkH c r hds))))) = true := h
      simp only [Bool.and_eq_true, nmB, Bool.not_eq_true'] at h
      obtain ⟨q1, q2, ⟨q3, _⟩, q4, q5, q6⟩ := h
      have := eq_of_beq q1
      subst this
      obtain ⟨L, hL⟩ := hl_of G r hds q6
      have hm : x ∈ c.cd.hd := by simpa using q4
      obtain ⟨cx, gC, hcx⟩ := G.exm x hm
      exact ⟨_, .cons ⟨glB_def (by rw [G.g.sc]; exact q2), q3, .inl gC⟩ (conB_def q5) (fun y ca h1 h2 => hcx y ca h1 h2) hL⟩
theorem n_try {b : Ss} {hs : Hs} (hb : MSs J k b) : MS J k (.try_ b hs) := by
  intro X Z b0 dp c l G hl st h
  cases st with
  | Try body handlers els fin pos =>
    match handlers, els, fin, h with
    | h0 :: hds, [], [], h =>
      have h : (chkSs c b body && chkH c hs (h0 :: hds)) = true := h
      simp only [Bool.and_eq_true] at h
      obtain ⟨L, hL⟩ := hl_of G hs _ h.2
      exact s_try (O := ora2 b0 J k) (lb := asgdS b) G.stk G.frm G.g.tk (fun W pn xe t p => hb (X.tr pn xe) W b0 dp c (asgdS b) (G.tr t p) (fun _ z => z) body h.1) hL (fun i hi => hl i (by rw [asgd]; exact List.mem_append_left _ hi))
  | _ => exact Bool.noConfusion h
theorem mem3 {l : List Nat} {i j m : Nat} (hl : ∀ n ∈ [i] ++ ([j] ++ ([m] ++ [])), n ∈ l) : i ∈ l ∧ j ∈ l ∧ m ∈ l := ⟨hl i (by simp), hl j (by simp), hl m (by simp)⟩
theorem n_asgt {ps : Pts} {es : Es} : MS J k (.asgt ps es) := by
  intro X Z b0 dp c l G hl st h
  cases st with
  | Assign ts v pos =>
    match ts, v, h with
    | [.Tuple ts kt pt], .Tuple vs k2 p2, h =>
      have h : (chkP c.N (tgB c.rs) (.tup ps) (.Tuple ts kt pt) && (chkEs c es vs && (decide (lenPs ps < 100) && (swapOk vs && (swapNames c.sc ts vs).isNone)))) = true := h
      simp only [Bool.and_eq_true, Option.isNone_iff_eq_none] at h
      obtain ⟨q1, q2, q3, q4, q5⟩ := h
      refine s_asgt (mEs J k es X Z b0 dp c G.g _ q2).2 (G.g.pg q1) (by show swapsWith (.Tuple vs k2 p2) (some (.Tuple ts kt pt)) pos.line X.env = pure false; rfl) ?_ rfl (of_decide_eq_true q3) hl
      rw [swap_def G.fk q4, G.g.sc, q5]
  | _ => exact Bool.noConfusion h
theorem parB_inv {c : CEnv} {ps : Pts} {ts vs : List Expr} (h : parB c ps ts vs = true) :
    (∃ i j x px y py a d, ps = .cons (.v i) (.cons (.v j) .nil) ∧ ts = [.Name x px, .Name y py] ∧ vs = [a, d]) ∨
    (∃ i j m x px y py z pz a d e, ps = .cons (.v i) (.cons (.v j) (.cons (.v m) .nil)) ∧ ts = [.Name x px, .Name y py, .Name z pz] ∧ vs = [a, d, e]) := by
  cases ps with
  | nil => exact Bool.noConfusion h
  | cons p0 r => cases p0 with
    | tup _ => exact Bool.noConfusion h
    | v i => cases r with
      | nil => exact Bool.noConfusion h
      | cons p1 r => cases p1 with
        | tup _ => exact Bool.noConfusion h
        | v j => cases r with
          | nil => cases ts with
            | nil => exact Bool.noConfusion h
            | cons t0 ts => cases t0 with
              | Name x px => cases ts with
                | nil => exact Bool.noConfusion h
                | cons t1 ts => cases t1 with
                  | Name y py => cases ts with
                    | cons _ _ => exact Bool.noConfusion h
                    | nil => cases vs with
                      | nil => exact Bool.noConfusion h
                      | cons a vs => cases vs with
                        | nil => exact Bool.noConfusion h
                        | cons d vs => cases vs with
                          | cons _ _ => exact Bool.noConfusion h
                          | nil => exact .inl ⟨i, j, x, px, y, py, a, d, rfl, rfl, rfl⟩
                  | _ => exact Bool.noConfusion h
              | _ => exact Bool.noConfusion h
          | cons p2 r => cases p2 with
            | tup _ => exact Bool.noConfusion h
            | v m => cases r with
              | cons _ _ => exact Bool.noConfusion h
              | nil => cases ts with
                | nil => exact Bool.noConfusion h
                | cons t0 ts => cases t0 with
                  | Name x px => cases ts with
                    | nil => exact Bool.noConfusion h
                    | cons t1 ts => cases t1 with
                      | Name y py => cases ts with
                        | nil => exact Bool.noConfusion h
                        | cons t2 ts => cases t2 with
                          | Name z pz => cases ts with
                            | cons _ _ => exact Bool.noConfusion h
                            | nil => cases vs with
                              | nil => exact Bool.noConfusion h
                              | cons a vs => cases vs with
                                | nil => exact Bool.noConfusion h
                                | cons d vs => cases vs with
                                  | nil => exact Bool.noConfusion h
                                  | cons e vs => cases vs with
                                    | cons _ _ => exact Bool.noConfusion h
                                    | nil => exact .inr ⟨i, j, m, x, px, y, py, z, pz, a, d, e, rfl, rfl, rfl⟩
                          | _ => exact Bool.noConfusion h
                      | _ => exact Bool.noConfusion h
                  | _ => exact Bool.noConfusion h
theorem n_asgs {ps : Pts} {es : Es} : MS J k (.asgs ps es) := by
  intro X Z b0 dp c l G hl st h
  cases st with
  | Assign ts v pos =>
    match ts, v, h with
    | [.Tuple ts kt pt], .Tuple vs k2 p2, h =>
      have h : (parB c ps ts vs && chkEs c es vs) = true := h
      simp only [Bool.and_eq_true] at h
      obtain ⟨h, q8⟩ := h
      rcases parB_inv h with ⟨i, j, x, px, y, py, a, d, e1, e2, e3⟩ | ⟨i, j, m, x, px, y, py, z, pz, a, d, e, e1, e2, e3⟩
      · subst e1 e2 e3
        have h : ((c.N[i]? == some x) && ((c.N[j]? == some y) && (decide (i ≠ j) && (locOnly c.sc x && (locOnly c.sc y && (swapOk [a, d] &&
          (swapNames c.sc [.Name x px, .Name y py] [a, d] == some [x, y]))))))) = true := h
        simp only [Bool.and_eq_true, decide_eq_true_eq] at h
        obtain ⟨q1, q2, q3, q4, q5, q6, q7⟩ := h
        refine s_par G.g.calm G.g.nd (by rw [G.g.N]; exact eq_of_beq q1) (by rw [G.g.N]; exact eq_of_beq q2) q3 (by rw [G.g.sc]; exact locOnly_def q4) (by rw [G.g.sc]; exact locOnly_def q5) (mEs J k es X Z b0 dp c G.g _ q8).2 ?_
          (hl i (by simp [asgd, asgdPs, asgdP])) (hl j (by simp [asgd, asgdPs, asgdP]))
        rw [swap_def G.fk q6, G.g.sc, eq_of_beq q7]
      · subst e1 e2 e3
        have h : ((c.N[i]? == some x) && ((c.N[j]? == some y) && ((c.N[m]? == some z) && (decide (i ≠ j) && (decide (i ≠ m) && (decide (j ≠ m) &&
          (locOnly c.sc x && (locOnly c.sc y && (locOnly c.sc z && (swapOk [a, d, e] && (swapNames c.sc [.Name x px, .Name y py, .Name z pz] [a, d, e] == some [x, y, z]))))))))))) = true := h
        simp only [Bool.and_eq_true, decide_eq_true_eq] at h
        obtain ⟨q1, q2, q3, r1, r2, r3, q4, q5, q55, q6, q7⟩ := h
        refine s_par3 G.g.calm G.g.nd (by rw [G.g.N]; exact eq_of_beq q1) (by rw [G.g.N]; exact eq_of_beq q2) (by rw [G.g.N]; exact eq_of_beq q3) r1 r2 r3 (by rw [G.g.sc]; exact locOnly_def q4) (by rw [G.g.sc]; exact locOnly_def q5) (by rw [G.g.sc]; exact locOnly_def q55) (mEs J k es X Z b0 dp c G.g _ q8).2 ?_
          (hl i (by simp [asgd, asgdPs, asgdP])) (hl j (by simp [asgd, asgdPs, asgdP])) (hl m (by simp [asgd, asgdPs, asgdP]))
        rw [swap_def G.fk q6, G.g.sc, eq_of_beq q7]
  | _ => exact Bool.noConfusion h
end
end Cs
set_option Elab.async false
set_option linter.all false
set_option autoImplicit false
set_option maxRecDepth 100000
set_option maxHeartbeats 2000000
/-! Blocks: statements whose cells are data behind them. -/
namespace Cs
open PySem L2 PyProof.Rows
section
variable {G : PySem.W.Frag} {w : World} {n0 : Nat} {f' : Fm} {M' : Mem} {H' : Hp} {σV : L2.St} {σ : Sl}
theorem SlR.clean (s : SlR G w f' M' H' σV σ) (hn : n0 ≤ M'.length) : SlR G w f' (M'.take n0) H' σV (clean n0 σ) := by
  refine ⟨by unfold Cs.clean; rw [List.length_map]; exact s.1, fun i x e => ?_⟩
  unfold Cs.clean at e
  rw [List.getElem?_map] at e
  obtain ⟨o, e1, e2⟩ := Option.map_eq_some_iff.mp e
  cases o with
  | none => cases e2
  | some y =>
    obtain ⟨v, h1, h2⟩ := s.2 i y e1
    cases y with
    | d z => cases e2; exact ⟨v, h1, DR.mono (fun _ => isC_take) h2⟩
    | c n =>
      have e2 : (if n < n0 then some (W.c n) else none) = some x := e2
      by_cases hl : n < n0
      · rw [if_pos hl] at e2
        cases e2
        exact ⟨v, h1, h2.take (fun m hm => by simp [W.refs] at hm; omega) hn⟩
      · rw [if_neg hl] at e2; cases e2
theorem frzS_ok (m : MemOk G w f' M' H') (s : SlR G w f' M' H' σV σ) (hn : n0 ≤ M'.length) : ∀ (is : List Nat) (σ2 : Sl), frzS n0 M' σ is = some σ2 → SlR G w f' (M'.take n0) H' σV σ2
  | [], σ2, e => by
    cases e
    exact s.clean hn
  | i :: r, σ2, e => by
    have e : ((frzS n0 M' σ r).bind fun σ' => match σ[i]? with
      | some (some w) => (frz n0 4 M' w).map fun x => σ'.set i (some (.d x))
      | _ => none) = some σ2 := e
    cases h1 : frzS n0 M' σ r with
    | none => rw [h1] at e; cases e
    | some σ' =>
      have ih := frzS_ok m s hn r σ' h1
      rw [h1, Option.bind_some] at e
      split at e
      · rename_i w hw
        obtain ⟨x, hx, rfl⟩ := Option.map_eq_some_iff.mp e
        obtain ⟨v, g1, g2⟩ := s.2 i w hw
        refine ⟨by rw [List.length_set]; exact ih.1, fun j y ej => ?_⟩
        by_cases hj : i = j
        · subst hj
          have hl : i < σ'.length := by
            have := (List.getElem?_eq_some_iff.mp ej).1
            rw [List.length_set] at this
            exact this
          rw [List.getElem?_set_self hl] at ej
          cases ej
          exact ⟨v, g1, frz_ok m 4 w v x g2 hx⟩
        · rw [List.getElem?_set_ne hj] at ej
          exact ih.2 j y ej
      · cases e
end
section
variable {J : Info} {k : Nat}
/-- a block, and what follows it -/
def MSc (J : Info) (k : Nat) (S : Ss) : Prop := ∀ (X : Cx) (Z : WX) (b dp : Nat) (c : CEnv) (l : List Nat), GoodS X Z b J k dp c → (∀ i ∈ asgdS S, i ∈ l) → ∀ st, chkSs c S st = true → ∀ (st2 : List Stmt) (u : TS), PSs X st2 u → PSs X (st ++ st2) (tSeq (tS X Z b l fun σ => exs (ora2 b J k) S σ) u)
theorem GoodS.base {X : Cx} {Z : WX} {b b' : Nat} {dp : Nat} {c : CEnv} (G : GoodS X Z b J k dp c) : GoodS X Z b' J k dp c :=
  ⟨⟨G.g.calm, G.g.nd, G.g.un, G.g.tk, G.g.N, G.g.sc, G.g.tgt, G.g.blt, G.g.glob, G.g.tups, G.g.fns, G.g.room, G.g.lam, G.g.dp2, G.g.cls⟩, G.fk, G.pass, G.stk, G.frm, G.exc, G.exf, G.exm⟩
theorem tS_seq {X : Cx} {Z : WX} {b : Nat} {l : List Nat} {r1 r2 : Sl → K (Fl × Sl)} {D : Ends} {σ : L2.St} {H : Hp} (w : tS X Z b l (fun σ => (r1 σ).bnd fun q => match q.1 with | .nx => r2 q.2 | .rt w => K.pur (.rt w, q.2)) D σ H) : tSeq (tS X Z b l r1) (tS X Z b l r2) D σ H := by
  obtain ⟨f, σ', M, s, h⟩ := w
  refine ⟨f, σ', M, s, h.bnd.imp (fun q f1 M1 H1 x1 m1 h1 => ?_) fun _ _ _ _ _ _ z => z⟩
  obtain ⟨fl, σ1⟩ := q
  cases fl with
  | rt w => exact h1 f1 H1 .refl m1
  | nx =>
    intro σV' s' k
    refine ⟨f1, σ1, M1, ⟨m1, Nat.le_trans s.base x1.len, s'⟩, h1.imp (fun r f' M' H' x m q => ?_) fun e f' M' H' x m q σV2 k2 => q σV2 (k.tr k2)⟩
    unfold okS at q ⊢
    split
    · rename_i e
      simp only [e] at q
      exact fun σV2 s2 k2 => q σV2 s2 (k.tr k2)
    · rename_i w e
      simp only [e] at q
      exact q
/-- the end of a block -/
theorem blk_ok {X : Cx} {Z : WX} {b : Nat} {f : Fm} {M : Mem} {H : Hp} {r1 : Nat → Sl → K (Fl × Sl)} {r2 : Sl → K (Fl × Sl)} {is : List Nat} {σ : Sl} {D : Ends} {l : List Nat} {σV : L2.St} (st : Stt X b f σ M σV H)
    (h : Then X.K X.w b f M H (((blkW r1 is σ).bnd r2) M) (okS X D l σV) (erS X Z l σV)) :
    Then X.K X.w M.length f M H (r1 M.length σ M) (okS X { D with nx := tS X Z b l r2 D } l σV) (erS X Z l σV) := by
  have h := h.bnd
  unfold blkW at h
  cases hr : r1 M.length σ M with
  | no => rw [hr] at h; exact h
  | exc e M' =>
    rw [hr] at h
    intro f' H' x m σV' hs cls d hx
    obtain ⟨m', x'⟩ := MemOk.take st.mem x m st.base
    refine h f' H' x' m' σV' hs cls d ?_
    obtain ⟨ca, h1, h2, h3⟩ := hx
    refine ⟨ca, h1, h2, ?_⟩
    cases ha : e.att with
    | none => rw [ha] at h3; exact h3
    | some na =>
      rw [ha] at h3
      obtain ⟨da, v, q1, q2, q3⟩ := h3
      exact ⟨da, v, q1, q2, DR.mono (fun _ => isC_take) q3⟩
  | ok q M' =>
    rw [hr] at h
    obtain ⟨fl, σ1⟩ := q
    cases fl with
    | rt w => exact h.elim
    | nx =>
      dsimp only at h
      intro f' H' x m σV' s' k
      cases hz : frzS M.length M' σ1 is with
      | none => rw [hz] at h; exact h.elim
      | some σ2 =>
        rw [hz] at h
        obtain ⟨m', x'⟩ := MemOk.take st.mem x m st.base
        have h1 := h f' H' x' m'
        refine ⟨f', σ2, M'.take M.length, ⟨m', Nat.le_trans st.base x'.len, frzS_ok m s' x.len is σ2 hz⟩, h1.imp (fun r f2 M2 H2 x2 m2 q => ?_) fun e f2 M2 H2 x2 m2 q σV2 k2 => q σV2 (k.tr k2)⟩
        unfold okS at q ⊢
        split
        · rename_i e
          simp only [e] at q
          exact fun σV2 s2 k2 => q σV2 s2 (k.tr k2)
        · rename_i w e
          simp only [e] at q
          exact q
theorem c_nil : MSc J k .nil := by
  intro X Z b0 dp c l G hl st h st2 u h2
  cases st with
  | nil => exact pss_to h2 fun D σ H ⟨f, σ', M, s, h⟩ => h f H .refl s.mem σ s.sl .refl
  | cons _ _ => exact Bool.noConfusion h
theorem c_cons {s : S} {r : Ss} (hs : MS J k s) (hr : MSc J k r) : MSc J k (.cons s r) := by
  intro X Z b0 dp c l G hl st h st2 u h2
  cases st with
  | nil => exact Bool.noConfusion h
  | cons x xs =>
    have h : (chkS c s x && chkSs c r xs) = true := h
    simp only [Bool.and_eq_true] at h
    have p1 := hs X Z b0 dp c l G (fun i hi => hl i (by rw [asgdS]; exact List.mem_append_left _ hi)) x h.1
    have p2 := hr X Z b0 dp c l G (fun i hi => hl i (by rw [asgdS]; exact List.mem_append_right _ hi)) xs h.2 st2 u h2
    exact pss_to (pss_cons p1 p2) fun D σ H w => tS_seq (D := { D with nx := u D }) (by unfold tSeq at w; simp only [exs] at w; exact w)
theorem c_blk {s r : Ss} {is : List Nat} (hs : MSc J k s) (hr : MSc J k r) : MSc J k (.blk s is r) := by
  intro X Z b0 dp c l G hl st h st2 u h2
  have h : (chkSs c s (st.take (lenSs s)) && chkSs c r (st.drop (lenSs s))) = true := by cases st <;> exact h
  simp only [Bool.and_eq_true] at h
  have p2 := hr X Z b0 dp c l G (fun i hi => hl i (by rw [asgdS]; exact List.mem_append_right _ hi)) _ h.2 st2 u h2
  refine ⟨fun pins s0 σ H D I w => ?_⟩
  obtain ⟨f, σ', M, st', h'⟩ := w
  have p1 := hs X Z M.length dp c l G.base (fun i hi => hl i (by rw [asgdS]; exact List.mem_append_left _ hi)) _ h.1 _ _ p2
  rw [← List.append_assoc, List.take_append_drop] at p1
  refine p1.run pins s0 σ H D I ⟨f, σ', M, ⟨st'.mem, Nat.le_refl _, st'.sl⟩, ?_⟩
  simp only [exs] at h'
  exact blk_ok (D := { D with nx := u D }) st' h'
theorem n_blk {s r : Ss} {is : List Nat} (hs : MSc J k s) (hr : MSc J k r) : MSs J k (.blk s is r) := by
  intro X Z b0 dp c l G hl st h
  have := c_blk hs hr X Z b0 dp c l G hl st h [] tNext pss_nil
  rw [List.append_nil] at this
  exact this
end
end Cs
set_option Elab.async false
set_option linter.all false
set_option autoImplicit false
set_option maxRecDepth 100000
set_option maxHeartbeats 2000000
namespace Cs
open PySem L2 PyProof.Rows
section
variable {J : Info} {k : Nat}
theorem n_plain {p : Pt} {e : E} {X : Cx} {Z : WX} {b0 dp : Nat} {c : CEnv} {l : List Nat} (G : GoodS X Z b0 J k dp c) (hl : ∀ i ∈ asgdP p, i ∈ l) {tg v : Expr} {pos : Pos} (hp : chkP c.N (tgB c.rs) p tg = true) (he : chkE c e v = true) (hpl : plainB c tg v = true) :
    PS X (.Assign [tg] v pos) (tS X Z b0 l fun σ => ex (ora2 b0 J k) (.asg p e) σ) := by
  have h1 := (mE J k e X Z b0 dp c G.g v he).2.1
  have h2 := G.g.pg hp
  cases tg with
  | Name y py =>
    have hpl : (!swB c.sc v y py) = true := hpl
    simp only [Bool.not_eq_true'] at hpl
    refine s_asg h1 h2 ?_ ?_ rfl hl
    · show swapsWith v (some (.Name y py)) pos.line X.env = pure false
      rw [swB_def G.fk, G.g.sc, hpl]
    · cases v <;> rfl
  | Tuple ts kt pt =>
    refine s_asg h1 h2 ?_ ?_ rfl hl
    · show swapsWith v (some (.Tuple ts kt pt)) pos.line X.env = pure false
      cases v <;> rfl
    · cases v with
      | Tuple vs k2 p2 =>
        have hpl : (swapOk vs && (swapNames c.sc ts vs).isNone) = true := hpl
        simp only [Bool.and_eq_true, Option.isNone_iff_eq_none] at hpl
        rw [swap_def G.fk hpl.1, G.g.sc, hpl.2]
      | _ => rfl
  | _ => cases v <;> exact Bool.noConfusion hpl
theorem n_comp {i : Nat} {kk : Bool} {own : List Nat} {elt : E} {q : Pt} {it : I} {d : Oe} {X : Cx} {Z : WX} {b0 dp : Nat} {c : CEnv} {l : List Nat} (G : GoodS X Z b0 J k dp c) (hl : i ∈ l) {y : Str} {py pos : Pos} {v : Expr} (hy : c.N[i]? = some y) (hloc : locOnly c.sc y = true) (hsw : swB c.sc v y py = true)
    (h : chkE c (.comp kk own elt q it d) v = true) : PS X (.Assign [.Name y py] v pos) (tS X Z b0 l fun σ => ex (ora2 b0 J k) (.asg (.v i) (.comp kk own elt q it d)) σ) := by
  cases v with
  | ListComp x gs scope lpos =>
    match gs, h with
    | [⟨tg, iter, ifs, is⟩], h =>
      have h : (decide (is = 0) && (setB iter && (blkC c.N c.sc scope (ownOf c.N own) && ((asgdP q).all (fun i => own.contains i) && (chkP c.N (tgB scope) q tg &&
        (chkI c it tg iter && (chkT (c.blk scope) d ifs && chkE (c.blk scope) elt x))))))) = true := h
      simp only [Bool.and_eq_true, decide_eq_true_eq] at h
      obtain ⟨q0, q1, q2, q3, q4, q5, q6, q7⟩ := h
      subst q0
      have g := G.g
      have ok : BlkOk X.N X.env.scope scope (ownOf c.N own) := by rw [g.N, g.sc]; exact blkOk_by q2
      have hp : ∀ i ∈ asgdP q, i ∈ own := fun i h => by simpa using List.all_eq_true.mp q3 i h
      have gb := fun s H C cl fp => Good.blk g scope s H C cl fp
      have := s_setLc (Z := Z) (b := b0) (l := l) (py := py) (spos := pos) (pos := lpos) (kk := kk) g.calm g.nd (by rw [g.N]; exact hy) (by rw [g.sc]; exact locOnly_def hloc) (by rw [swB_def G.fk, g.sc, hsw]) (mI J k it X Z b0 dp c g tg iter q5) ok (by rw [own_ix]; exact hp)
        (fun s H C cl fp => (gb s H C cl fp).pg q4) (fun s H C cl fp => pts_to ((mO J k d).2 _ _ _ _ _ (gb s H C cl fp) ifs q6) tT_blk) (fun s H C cl fp => pe_to (mE J k elt _ _ _ _ _ (gb s H C cl fp) x q7).2.1 tR_blk) (setB_def q1) hl
      rw [own_ix] at this
      exact this
  | _ => exact Bool.noConfusion h
theorem n_comp2 {i : Nat} {own : List Nat} {elt : E} {q q2' : Pt} {it it2 : I} {X : Cx} {Z : WX} {b0 dp : Nat} {c : CEnv} {l : List Nat} (G : GoodS X Z b0 J k dp c) (hl : i ∈ l) {y : Str} {py pos : Pos} {v : Expr} (hy : c.N[i]? = some y) (hloc : locOnly c.sc y = true) (hsw : swB c.sc v y py = true)
    (h : chkE c (.comp2 own elt q it q2' it2) v = true) : PS X (.Assign [.Name y py] v pos) (tS X Z b0 l fun σ => ex (ora2 b0 J k) (.asg (.v i) (.comp2 own elt q it q2' it2)) σ) := by
  cases v with
  | ListComp x gs scope lpos =>
    match gs, h with
    | [⟨tg, iter, [], is⟩, ⟨tg2, iter2, [], is2⟩], h =>
      have h : (decide (is = 0) && (decide (is2 = 0) && (setB iter && (setB iter2 && (blkC c.N c.sc scope (ownOf c.N own) && ((asgdP q).all (fun i => own.contains i) &&
        ((asgdP q2').all (fun i => own.contains i) && (chkP c.N (tgB scope) q tg && (chkP c.N (tgB scope) q2' tg2 && (chkI c it tg iter && (chkI (c.blk scope) it2 tg2 iter2 && chkE (c.blk scope) elt x))))))))))) = true := h
      simp only [Bool.and_eq_true, decide_eq_true_eq] at h
      obtain ⟨q0, q01, q1, q11, q2, q3, q33, q4, q44, q5, q55, q7⟩ := h
      subst q0 q01
      have g := G.g
      have ok : BlkOk X.N X.env.scope scope (ownOf c.N own) := by rw [g.N, g.sc]; exact blkOk_by q2
      have hp : ∀ i ∈ asgdP q, i ∈ own := fun i h => by simpa using List.all_eq_true.mp q3 i h
      have hp2 : ∀ i ∈ asgdP q2', i ∈ own := fun i h => by simpa using List.all_eq_true.mp q33 i h
      have gb := fun s H C cl fp => Good.blk g scope s H C cl fp
      have := s_setLc2 (Z := Z) (b := b0) (l := l) (py := py) (spos := pos) (pos := lpos) g.calm g.nd (by rw [g.N]; exact hy) (by rw [g.sc]; exact locOnly_def hloc) (by rw [swB_def G.fk, g.sc, hsw]) (mI J k it X Z b0 dp c g tg iter q5) ok (by rw [own_ix]; exact hp) (by rw [own_ix]; exact hp2)
        (fun s H C cl fp => (gb s H C cl fp).pg q4) (fun s H C cl fp => pi_to (mI J k it2 _ _ _ _ _ (gb s H C cl fp) tg2 iter2 q55) iR_blk) (fun s H C cl fp => (gb s H C cl fp).pg q44) (fun s H C cl fp => pe_to (mE J k elt _ _ _ _ _ (gb s H C cl fp) x q7).2.1 tR_blk) (setB_def q1) (fun env => setB_def q11) hl
      rw [own_ix] at this
      exact this
  | _ => exact Bool.noConfusion h
theorem n_asg {p : Pt} {e : E} : MS J k (.asg p e) := by
  intro X Z b0 dp c l G hl st h
  cases st with
  | Assign ts v pos =>
    cases ts with
    | nil => cases v <;> exact Bool.noConfusion h
    | cons tg tr =>
      cases tr with
      | cons _ _ => cases v <;> exact Bool.noConfusion h
      | nil =>
        have h : (chkP c.N (tgB c.rs) p tg && (chkE c e v && (plainB c tg v || compB c p e tg v))) = true := h
        simp only [Bool.and_eq_true] at h
        obtain ⟨h1, h2, h3⟩ := h
        cases hq : plainB c tg v with
        | true => exact n_plain G hl h1 h2 hq
        | false =>
          rw [hq, Bool.false_or] at h3
          cases p with
          | tup ps => exact Bool.noConfusion h3
          | v i =>
            cases tg with
            | Name y py =>
              have hy : c.N[i]? = some y := by
                have h1 : ((c.N[i]? == some y) && tgB c.rs y) = true := h1
                simp only [Bool.and_eq_true] at h1
                exact eq_of_beq h1.1
              have hsw : swB c.sc v y py = true := by
                have hq : (!swB c.sc v y py) = false := hq
                simpa using hq
              have hi : i ∈ l := hl i (by simp [asgd, asgdP])
              cases e with
              | comp kk own elt q it d => exact n_comp G hi hy h3 hsw h2
              | comp2 own elt q it q2 it2 => exact n_comp2 G hi hy h3 hsw h2
              | _ => exact Bool.noConfusion h3
            | _ => cases e <;> exact Bool.noConfusion h3
  | _ => exact Bool.noConfusion h
end
section
variable (J : Info) (k : Nat)
mutual
theorem mS : ∀ s : S, MS J k s
  | .asg _ _ => n_asg
  | .asgs _ _ => n_asgs
  | .asgt _ _ => n_asgt
  | .put _ _ _ => n_put
  | .ex _ => n_ex
  | .ite _ a b => n_ite (mSs a) (mSs b)
  | .for_ _ _ b => n_for (mSs b)
  | .while_ _ b => n_while (mSs b)
  | .ret _ => n_ret
  | .retN => n_retN
  | .pass => n_pass
  | .stuck => n_stuck
  | .rai _ _ => n_rai
  | .raif _ _ => n_raif
  | .try_ b _ => n_try (mSs b)
theorem mSs : ∀ s : Ss, MSs J k s
  | .nil => n_nil
  | .cons s r => n_cons (mS s) (mSs r)
  | .blk b _ r => n_blk (mSc b) (mSc r)
theorem mSc : ∀ s : Ss, MSc J k s
  | .nil => c_nil
  | .cons s r => c_cons (mS s) (mSc r)
  | .blk b _ r => c_blk (mSc b) (mSc r)
end
end
end Cs
set_option Elab.async false
set_option linter.all false
set_option autoImplicit false
set_option maxRecDepth 100000
set_option maxHeartbeats 2000000
/-! Defs. -/
namespace Cs
open PySem L2 PyProof.Rows
/-- the body's end, from the call's -/
theorem leave_ok {X : Cx} {b : Nat} {keep : Bool} {f : Fm} {M : Mem} {H : Hp} {r : Res (Fl × Sl)} {Q : VK} {E : XK} {D : Ends} {l : List Nat} {σV : L2.St} (hD : D = { nx := fun _ H' => Q .non H', rt := Q }) (m0 : MemOk X.K X.w f M H) (hb : b ≤ M.length)
    (h : Then X.K X.w b f M H (leave M.length keep r) (fun z f' M' H' => ∀ v, RW X.K X.w f' M' H' v z → Q v H') (fun e f' M' H' => ∀ cls d, ExcIs X e cls d H' (isC f' M') → E cls d H')) :
    Then X.K X.w M.length f M H r (okS X D l σV) (erS X (fun cls d _ H => E cls d H) l σV) := by
  subst hD
  cases r with
  | no => exact h
  | exc e M' =>
    intro f' H' x m σV' _ cls d hx
    obtain ⟨m', x'⟩ := MemOk.take m0 x m hb
    refine h f' H' x' m' cls d ?_
    obtain ⟨ca, h1, h2, h3⟩ := hx
    refine ⟨ca, h1, h2, ?_⟩
    cases ha : e.att with
    | none => rw [ha] at h3; exact h3
    | some na =>
      rw [ha] at h3
      obtain ⟨da, v, q1, q2, q3⟩ := h3
      exact ⟨da, v, q1, q2, DR.mono (fun _ => isC_take) q3⟩
  | ok r M' =>
    intro f' H' x m
    obtain ⟨fl, σ'⟩ := r
    obtain ⟨m', x'⟩ := MemOk.take m0 x m hb
    have fin : ∀ v, RW X.K X.w f' M' H' v fl.val → Q v H' := by
      intro v rv
      cases hv : fl.val with
      | d y =>
        rw [hv] at rv
        simp only [leave, hv] at h
        exact h f' H' x' m' v (DR.mono (fun _ => isC_take) rv)
      | c n =>
        rw [hv] at rv
        simp only [leave, hv] at h
        split at h
        · rename_i hn
          exact h f' H' x' m' v ⟨by have := x.len; simp; omega, rv.2⟩
        · split at h
          · exact h f' H' (x.weak hb) m v rv
          · split at h
            · rename_i y hy
              exact h f' H' x' m' v (frz_ok m 4 (.c n) v y rv hy)
            · exact h.elim
    unfold okS
    cases fl with
    | nx => exact fun σV' _ _ => fin .non DR.non
    | rt w => exact fun v rv => fin v rv
/-- the names of a module that are known -/
structure Known where
  fs : List Str
  gs : List Str
  ts : List Str
  es : List Str
  ws : List (Str × (List (Str × Str) × Str))
  cd : ClsK
def Known.env (n : Known) (N : List Str) (sc : Scope) : CEnv := ⟨N, n.fs, n.gs, n.ts, n.es, sc, sc, n.ws, false, n.cd⟩
/-- the law's own: lambdas, too -/
def Known.envL (n : Known) (N : List Str) (sc : Scope) : CEnv := ⟨N, n.fs, n.gs, n.ts, n.es, sc, sc, n.ws, true, n.cd⟩
/-- what is known of the module -/
structure ModOk (K : PySem.W.Frag) (w : World) (mg : Str → Option Value) (J : Info) (n : Known) : Prop where
  blt : ∀ x ∈ blNames, mg x = none
  glob : ∀ X : Cx, X.K = K → X.w = w → X.mg = mg → ∀ x ∈ n.gs, ∃ d, J.glob x = some d ∧ GlobOk X x d
  tups : ∀ X : Cx, X.K = K → X.w = w → X.mg = mg → ∀ x ∈ n.ts, ∃ ds, J.glob x = some (.tuple ds) ∧ GTup X x ds
  exc : ∀ X : Cx, X.K = K → X.mg = mg → ∀ x ∈ n.es, ExcAt X x ∧ J.att x = some none
  cls : ∀ X : Cx, X.K = K → X.w = w → X.mg = mg → ∀ dp, 2 ≤ dp → ClsOk X dp n.cd
  exf : ∀ p ∈ n.cd.ef, J.att p.1 = some (some p.2)
  exm : ∀ x ∈ n.cd.hd, ∃ cx : Addr, mg x = some (.ref cx) ∧ ∀ y ca, (J.att y).isSome = true → mg y = some (.ref ca) → PySem.W.exmOne K (.ref ca) (.ref cx) = some (J.sub y x)
/-- the def x of the module and its tree -/
def DefAt (K : PySem.W.Frag) (mg : Str → Option Value) (J : Info) (n : Known) (x : Str) : Prop :=
  ∃ f fd ps d N qual x' params body scope, mg x = some (.ref f) ∧ FunD K x' qual params body scope [] [] f fd ∧ FnScope N ps scope ∧ Binds K fd ps [] ∧ J.fns x = some d ∧ ps.length = d.np ∧ N.length = d.np + d.ns ∧ chkSs (n.env N scope) d.body body = true
theorem SlR.start {K : PySem.W.Frag} {w : World} {f : Fm} {M : Mem} {H : Hp} {N : List Str} {vs : List V} {ws : List Cs.W} {m : Nat} (r : RWs K w f M H vs ws) (hN : N.length = vs.length + m) : SlR K w f M H (L2.start N vs) (ws.map some ++ List.replicate m none) := by
  have hl := r.length
  refine ⟨by simp [L2.start, hN, hl], fun i y e => ?_⟩
  by_cases h : i < ws.length
  · rw [List.getElem?_append_left (by simpa using h), List.getElem?_map] at e
    obtain ⟨y', e1, e2⟩ := Option.map_eq_some_iff.mp e
    cases e2
    obtain ⟨v, e3, rv⟩ := r.get e1
    exact ⟨v, by rw [L2.start, List.getElem?_append_left (by simp; omega), List.getElem?_map, e3]; rfl, rv⟩
  · rw [List.getElem?_append_right (by simp; omega), List.getElem?_replicate] at e
    split at e <;> cases e
section
variable {P : Program} {w : World} {K : PySem.W.Frag} {mg : Str → Option Value} {base : Heap} {J : Info} {n : Known}
theorem fn_step {k : Nat} (mo : ModOk K w mg J n) (prev : ∀ x ∈ n.fs, FnAt P w K mg base J k (k + 3) x) {x : Str} (D : DefAt K mg J n x) : FnAt P w K mg base J (k + 1) (k + 1 + 3) x := by
  obtain ⟨f, fd, ps, d, N, qual, x', params, body, scope, h1, F, S, hb, h2, h3, h4, h5⟩ := D
  refine ⟨f, fd, ps, d, h1, F.kp, hb, h2, h3, ?_⟩
  refine F.ok S (fun vs H Q E ⟨_, _, _, _, _, _, _, hl, _⟩ => by rw [hl, h3]) fun cdv A outer s H vs Q E hr ⟨b, fm, M, ws, m, hbM, rw_, hl, h⟩ => ?_
  have hws := calln_len h.ne h2
  have good : GoodS (cxOf (L2.CX P w) P w K mg base N qual scope f cdv A outer s H E) (fun cls d _ H => E cls d H) M.length J k (k + 3) (n.env N scope) := by
    refine ⟨⟨rfl, S.nd, ?_, takes_of rfl rfl rfl rfl, rfl, rfl, fun y hy => ⟨?_, .inl rfl⟩, mo.blt, mo.glob _ rfl rfl rfl, mo.tups _ rfl rfl rfl, prev, hr, fun z => Bool.noConfusion z, by omega, mo.cls _ rfl rfl rfl _ (by omega)⟩, S.kind, passes_of rfl, rfl, rfl, mo.exc _ rfl rfl, mo.exf, mo.exm⟩
    · have := hr.un
      show (A.deeper _).units + 100 < cLine
      omega
    · exact tgB_def hy
  have bd := mSs J k d.body _ _ M.length (k + 3) _ (asgdS d.body) good (fun _ z => z) _ h5
  refine ⟨_, bd, fm, ws.map some ++ List.replicate d.ns none, M, ⟨m, Nat.le_refl _, SlR.start rw_ (by rw [h4, hl])⟩, ?_⟩
  unfold calln at h
  simp only [h2, hws, if_true] at h
  exact leave_ok (X := cxOf (L2.CX P w) P w K mg base N qual scope f cdv A outer s H E) rfl m hbM h
/-- every def of the module does what the interpreter says, as deep as one likes -/
theorem fn_all (mo : ModOk K w mg J n) (D : ∀ x ∈ n.fs, DefAt K mg J n x) : ∀ k, ∀ x ∈ n.fs, FnAt P w K mg base J k (k + 3) x
  | 0, x, hx => by
    obtain ⟨f, fd, ps, d, N, qual, x', params, body, scope, h1, F, S, hb, h2, h3, h4, h5⟩ := D x hx
    refine ⟨f, fd, ps, d, h1, F.kp, hb, h2, h3, ⟨fun vs H Q E ⟨_, _, _, _, _, _, _, hl, _⟩ => by rw [hl, h3], fun A outer s H args us vs Q E _ _ _ _ ⟨_, _, _, _, _, _, _, _, h⟩ => h.elim⟩⟩
  | k + 1, x, hx => fn_step mo (fn_all mo D k) (D x hx)
end
end Cs
set_option Elab.async false
set_option linter.all false
set_option autoImplicit false
set_option maxRecDepth 100000
set_option maxHeartbeats 2000000
/-! The head: what the module's names stand for, read by a hook; a law's end. -/
namespace Cs
open PySem L2 PyProof.Rows
/-! ### a part of the heap, without lists -/
def noL (o : Obj) : Bool := (match o.cls with
  | .type c => !(c == "list")
  | _ => true) && !He.emptyTab o
def cutL (g : Addr → Option Obj) (as : List Addr) : PySem.W.Frag := as.filterMap fun a => match g a with
  | some o => (match noL o with
    | true => some (a, o)
    | false => none)
  | none => none
theorem cutL_at {g : Addr → Option Obj} {a : Addr} {o : Obj} : ∀ as : List Addr, (cutL g as).lookup a = some o → g a = some o ∧ noL o = true
  | [], e => nomatch (show (none : Option Obj) = some o from e)
  | b :: r, e => by
    unfold cutL at e
    cases hb : g b with
    | none =>
      rw [List.filterMap_cons_none (by rw [hb])] at e
      exact cutL_at r e
    | some ob =>
      cases hl : noL ob with
      | false =>
        rw [List.filterMap_cons_none (by rw [hb]; dsimp only; rw [hl])] at e
        exact cutL_at r e
      | true =>
        rw [List.filterMap_cons_some (by rw [hb]; dsimp only; rw [hl])] at e
        have e2 : (match a == b with | true => some ob | false => (cutL g r).lookup a) = some o := e
        cases q : (a == b) with
        | true =>
          rw [q] at e2
          have eo : ob = o := Option.some.inj e2
          subst eo
          rw [beq_iff_eq.mp q]
          exact ⟨hb, hl⟩
        | false =>
          rw [q] at e2
          exact cutL_at r e2
/-! ### data that stand in it -/
def all2 {α β : Type} (f : α → β → Bool) : List α → List β → Bool
  | [], [] => true
  | a :: as, b :: bs => f a b && all2 f as bs
  | _, _ => false
def vB (K : PySem.W.Frag) : Nat → Value → PyData → Bool
  | 0, _, _ => false
  | n + 1, v, d => match v, d with
    | .none, .none => true
    | .bool b, .bool c => b == c
    | .int i _, .int j => decide (i = j)
    | .str x _, .str y => decide (x = y)
    | .ref a, .tuple ds => (match K.lookup a with
      | some ⟨.type c, none, .seq its _, _⟩ => decide (c = "tuple") && (decide (its.size ≤ sizeLine) && all2 (vB K n) its.toList ds)
      | _ => false)
    | _, _ => false
theorem all2_drs {K : PySem.W.Frag} {w : World} {f : Value → PyData → Bool} (h : ∀ v d, f v d = true → ∃ u, RelV u v ∧ ∀ H C, DR K w H C u d) : ∀ {vs : List Value} {ds : List PyData}, all2 f vs ds = true → ∃ us, Vals us vs ∧ ∀ H C, DRs K w H C us ds
  | [], [], _ => ⟨[], .nil, fun _ _ => .nil⟩
  | v :: vs, d :: ds, e => by
    have e' : (f v d && all2 f vs ds) = true := e
    rw [Bool.and_eq_true] at e'
    obtain ⟨u, r, q⟩ := h v d e'.1
    obtain ⟨us, rs, qs⟩ := all2_drs h e'.2
    exact ⟨u :: us, .cons r rs, fun H C => .cons (q H C) (qs H C)⟩
  | [], _ :: _, e => Bool.noConfusion e
  | _ :: _, [], e => Bool.noConfusion e
theorem seqB {K : PySem.W.Frag} {a : Addr} {p : Array Value → Bool} (h : (match K.lookup a with
      | some ⟨.type c, none, .seq its _, _⟩ => decide (c = "tuple") && (decide (its.size ≤ sizeLine) && p its)
      | _ => false) = true) : ∃ its n sl, K.lookup a = some ⟨.type "tuple", none, .seq its n, sl⟩ ∧ its.size ≤ sizeLine ∧ p its = true := by
  split at h
  · rename_i c its n sl e
    simp only [Bool.and_eq_true, decide_eq_true_eq] at h
    obtain ⟨rfl, h2, h3⟩ := h
    exact ⟨its, n, sl, e, h2, h3⟩
  · exact Bool.noConfusion h
theorem vB_ok {K : PySem.W.Frag} {w : World} : ∀ (n : Nat) (v : Value) (d : PyData), vB K n v d = true → ∃ u, RelV u v ∧ ∀ H C, DR K w H C u d := by
  intro n
  induction n with
  | zero => intro v d h; exact Bool.noConfusion h
  | succ n ih =>
    intro v d h
    cases v with
    | none => cases d <;> first | exact ⟨.non, rfl, fun _ _ => .non⟩ | exact Bool.noConfusion h
    | bool b =>
      cases d <;> first | exact Bool.noConfusion h | skip
      have e : (b == _) = true := h
      rw [← eq_of_beq e]
      exact ⟨.bl b, rfl, fun _ _ => .bl b⟩
    | int i t =>
      cases d <;> first | exact Bool.noConfusion h | skip
      have e := of_decide_eq_true h
      rw [← e]
      exact ⟨.int i, ⟨t, rfl⟩, fun _ _ => .int i⟩
    | str x t =>
      cases d <;> first | exact Bool.noConfusion h | skip
      have e := of_decide_eq_true h
      rw [← e]
      exact ⟨.str x, ⟨t, rfl⟩, fun _ _ => .str x⟩
    | ref a =>
      cases d with
      | tuple ds =>
        obtain ⟨its, m, sl, e, h2, h3⟩ := seqB h
        obtain ⟨us, r, q⟩ := all2_drs (w := w) ih h3
        exact ⟨.ref a, rfl, fun H C => .tup (.inr ⟨_, its, m, e, rfl, rfl, h2, r⟩) (q H C)⟩
      | _ => exact Bool.noConfusion h
    | _ => cases d <;> exact Bool.noConfusion h
/-- the dict at v: its keys and values -/
def dB (K : PySem.W.Frag) (v : Value) (kvs : List (PyData × PyData)) : Bool := match v with
  | .ref a => (match K.lookup a with
    | some ⟨.type c, none, .dict es _, sl⟩ => decide (c = "dict") && (decide (sl = #[]) && (!(a == sysModules) && all2 (fun (e : DictEntry) (p : PyData × PyData) => vB K 4 e.key p.1 && vB K 4 e.val p.2) es.toList kvs))
    | _ => false)
  | _ => false
def dH (K : PySem.W.Frag) (v : Value) : List Int := match v with
  | .ref a => (match K.lookup a with
    | some ⟨_, _, .dict es _, _⟩ => es.toList.map (·.hash)
    | _ => [])
  | _ => []
def xH (w : World) (kvs : List (PyData × PyData)) : List Int := kvs.map fun p => keyH w (leaf p.1)
def keyB (kvs : List (PyData × PyData)) : Bool := kvs.all (fun p => sort p.1 == 1) && (distinct (kvs.map (·.1)) && decide (kvs.length ≤ 100))
theorem keyB_ok {kvs : List (PyData × PyData)} (h : keyB kvs = true) : (∀ p ∈ kvs, sort p.1 = 1) ∧ KeysOk kvs := by
  unfold keyB at h
  simp only [Bool.and_eq_true, List.all_eq_true, beq_iff_eq, decide_eq_true_eq] at h
  obtain ⟨h1, h2, h3⟩ := h
  refine ⟨h1, fun p hp => leaf_key (h1 p hp), ?_, Nat.le_trans h3 (by decide)⟩
  have nd : ∀ xs : List PyData, distinct xs = true → (∀ x ∈ xs, sort x = 1) → (xs.map nk).Nodup := by
    intro xs
    induction xs with
    | nil => intro _ _; simp
    | cons x xs ih =>
      intro hd hs
      simp only [distinct, Bool.and_eq_true, Bool.not_eq_true', List.any_eq_false] at hd
      rw [List.map_cons, List.nodup_cons]
      refine ⟨fun hm => ?_, ih hd.2 fun y hy => hs y (List.mem_cons_of_mem _ hy)⟩
      obtain ⟨y, hy, e⟩ := List.mem_map.mp hm
      have kx := leaf_key (hs x List.mem_cons_self)
      have ky := leaf_key (hs y (List.mem_cons_of_mem _ hy))
      exact hd.1 y hy ((eqv_key 8 x y kx ky).2 (nk_inj 8 x y kx ky e.symm))
  have := nd (kvs.map (·.1)) h2 (fun x hx => by obtain ⟨p, hp, rfl⟩ := List.mem_map.mp hx; exact h1 p hp)
  rw [List.map_map] at this
  exact this
theorem drk_of {K : PySem.W.Frag} {w : World} : ∀ {es : List DictEntry} {kvs : List (PyData × PyData)}, all2 (fun (e : DictEntry) (p : PyData × PyData) => vB K 4 e.key p.1 && vB K 4 e.val p.2) es kvs = true → es.map (·.hash) = xH w kvs → (∀ p ∈ kvs, sort p.1 = 1) → ∀ H C, DRk K w H C es kvs
  | [], [], _, _, _, _, _ => .nil
  | e :: es, (k, v) :: kvs, h, hh, hs, H, C => by
    have h' : ((vB K 4 e.key k && vB K 4 e.val v) && all2 _ es kvs) = true := h
    simp only [Bool.and_eq_true] at h'
    obtain ⟨⟨h1, h2⟩, h3⟩ := h'
    have hh' : e.hash = keyH w (leaf k) ∧ es.map (·.hash) = xH w kvs := by
      have q : e.hash :: es.map (·.hash) = keyH w (leaf k) :: xH w kvs := hh
      exact List.cons.inj q
    obtain ⟨u1, r1, q1⟩ := vB_ok (w := w) 4 _ _ h1
    obtain ⟨u2, r2, q2⟩ := vB_ok (w := w) 4 _ _ h2
    have s1 : sort k = 1 := hs (k, v) List.mem_cons_self
    exact .cons (by rw [leaf_hash w s1]; exact hh'.1) r1 r2 (q1 H C) (q2 H C) (drk_of h3 hh'.2 (fun p hp => hs p (List.mem_cons_of_mem _ hp)) H C)
  | [], _ :: _, h, _, _, _, _ => Bool.noConfusion h
  | _ :: _, [], h, _, _, _, _ => Bool.noConfusion h
theorem dB_ok {K : PySem.W.Frag} {w : World} {v : Value} {kvs : List (PyData × PyData)} (h : dB K v kvs = true) (hh : dH K v = xH w kvs) (hk : keyB kvs = true) : ∃ u, RelV u v ∧ ∀ H C, DR K w H C u (.dict kvs) := by
  obtain ⟨hs, ko⟩ := keyB_ok hk
  unfold dB at h
  split at h
  · rename_i a
    split at h
    · rename_i c es ep sl e
      simp only [Bool.and_eq_true, decide_eq_true_eq, Bool.not_eq_true'] at h
      obtain ⟨rfl, rfl, h3, h4⟩ := h
      have hh' : es.toList.map (·.hash) = xH w kvs := by
        unfold dH at hh
        simp only [e] at hh
        exact hh
      exact ⟨.ref a, rfl, fun H C => .dic (es := es.toList) ⟨h3, .inr ⟨_, ep, e, ⟨rfl, rfl, rfl⟩, by simp⟩⟩ (drk_of h4 hh' hs H C) ko⟩
    · exact Bool.noConfusion h
  · exact Bool.noConfusion h
/-! ### the hook -/
/-- the value of the module's name x -/
def glV (K : PySem.W.Frag) (x : Str) : Value := match PySem.W.nsIn K mainGlobals x with
  | some (some v) => v
  | _ => .none
def glK (K : PySem.W.Frag) (x : Str) : Bool := match PySem.W.nsIn K mainGlobals x with
  | some (some _) => true
  | _ => false
abbrev AlC : Type := (He.AlD × Bool) × List (List Int)
structure Tell where
  fa : List He.Fa
  fn : List He.DefD
  gt : List (Str × PyData)
  gd : List (Str × List (PyData × PyData))
  ck : PySem.W.Frag → Bool
def Tell.gB (T : Tell) (K : PySem.W.Frag) : Bool := (T.gt.all fun p => glK K p.1 && vB K 4 (glV K p.1) p.2) && ((T.gd.all fun p => glK K p.1 && dB K (glV K p.1) p.2) && T.ck K)
def Tell.obsK (T : Tell) (K : PySem.W.Frag) : AlC := ((He.obsD T.fa T.fn K, T.gB K), T.gd.map fun p => dH K (glV K p.1))
def Tell.val (T : Tell) (w : World) : AlC := ((He.valD T.fn, true), T.gd.map fun p => xH w p.2)
def Tell.says (T : Tell) (w : World) (K : PySem.W.Frag) : Prop := (∀ a o, K.lookup a = some o → noL o = true) ∧ T.obsK K = T.val w
/-- the law's def: its code object, its table, which is empty -/
abbrev lawDef : He.Defn := ("law", none)
structure LawTab (h : Heap) (K : PySem.W.Frag) : Prop where
  hd : PySem.W.codeHdIn K (He.cT K lawDef).1 (He.cT K lawDef).2 = true
  out : K.lookup (He.cT K lawDef).2 = none
  empty : h.get? (He.cT K lawDef).2 = some { cls := .none, data := .fields #[] }
abbrev AlL : Type := AlC × Bool
def Tell.obsG (T : Tell) (n : Nat) (g : Addr → Option Obj) : AlL := (T.obsK (cutL g (He.asD g n ++ [cStatics])), He.tabsB g [lawDef] (cutL g (He.asD g n ++ [cStatics])))
theorem lawTab_of {g : Addr → Option Obj} {as : List Addr} (e : He.tabsB g [lawDef] (cutL g as) = true) : PySem.W.codeHdIn (cutL g as) (He.cT (cutL g as) lawDef).1 (He.cT (cutL g as) lawDef).2 = true ∧ (cutL g as).lookup (He.cT (cutL g as) lawDef).2 = none ∧ g (He.cT (cutL g as) lawDef).2 = some { cls := .none, data := .fields #[] } := by
  have e' : ((PySem.W.codeHdIn (cutL g as) (He.cT (cutL g as) lawDef).1 (He.cT (cutL g as) lawDef).2 && (match g (He.cT (cutL g as) lawDef).2 with
    | some o => He.emptyTab o
    | none => false)) && true) = true := e
  simp only [Bool.and_eq_true] at e'
  obtain ⟨⟨h1, h2⟩, _⟩ := e'
  cases hg : g (He.cT (cutL g as) lawDef).2 with
  | none => rw [hg] at h2; cases h2
  | some o =>
    rw [hg] at h2
    have h2 : He.emptyTab o = true := h2
    refine ⟨h1, ?_, by rw [He.emptyTab_eq h2]⟩
    cases hl : (cutL g as).lookup (He.cT (cutL g as) lawDef).2 with
    | none => rfl
    | some u =>
      obtain ⟨z1, z2⟩ := cutL_at _ hl
      rw [hg] at z1
      cases z1
      unfold noL at z2
      rw [h2] at z2
      simp at z2
def Tell.hook (T : Tell) (n : Nat) : PySem.W.Hook where
  α := AlL
  obs := fun s => T.obsG n s.heap.get?
  val := fun w => (T.val w, true)
  says := fun w h => ∃ K : PySem.W.Frag, K.In h ∧ T.says w K ∧ LawTab h K
  of := fun _ _ e => ⟨_, fun a o q => (cutL_at _ q).1, ⟨fun a o q => (cutL_at _ q).2, congrArg Prod.fst e⟩, let q := lawTab_of (congrArg Prod.snd e); ⟨q.1, q.2.1, q.2.2⟩⟩
  keeps := fun _ _ _ ⟨K, hK, c, t⟩ k => ⟨K, PySem.W.Frag.In.keeps hK k, c, ⟨t.hd, t.out, k _ _ t.empty⟩⟩
theorem Tell.obs_eq (T : Tell) (n : Nat) (s : PySem.W.SharedT) : T.obsG n (HandSHeadRun.getT s) = (T.hook n).obs s.abs := by
  have e : HandSHeadRun.getT s = s.abs.heap.get? := funext (HandSHeadRun.getT_eq s)
  rw [e] <;> rfl
section
variable {T : Tell} {w : World} {K : PySem.W.Frag} {h : Heap} {mg : Str → Option Value}
theorem Tell.says.saysD (c : T.says w K) : He.SaysD T.fa T.fn K := congrArg (fun z : AlC => z.1.1) c.2
theorem glK_ok {x : Str} (g : glK K x = true) : PySem.W.nsIn K mainGlobals x = some (some (glV K x)) := by
  unfold glK at g
  split at g
  · rename_i v e
    unfold glV
    rw [e]
  · exact Bool.noConfusion g
theorem Tell.says.gt_ (c : T.says w K) {x : Str} {d : PyData} (hx : (x, d) ∈ T.gt) : glK K x = true ∧ vB K 4 (glV K x) d = true := by
  have q : T.gB K = true := congrArg (fun z : AlC => z.1.2) c.2
  unfold Tell.gB at q
  rw [Bool.and_eq_true] at q
  have q1 := List.all_eq_true.mp q.1 _ hx
  rwa [Bool.and_eq_true] at q1
theorem Tell.says.glo (c : T.says w K) (X : K.In h) (G : h.Ns mainGlobals mg) {x : Str} {d : PyData} (hx : (x, d) ∈ T.gt) : ∃ u v, mg x = some u ∧ RelV v u ∧ (∀ H C, DR K w H C v d) := by
  obtain ⟨g1, g2⟩ := c.gt_ hx
  obtain ⟨u, r, dr⟩ := vB_ok (w := w) 4 _ _ g2
  exact ⟨_, u, PySem.W.mg_of X G (glK_ok g1), r, dr⟩
theorem Tell.says.gdi (c : T.says w K) (X : K.In h) (G : h.Ns mainGlobals mg) {i : Nat} {x : Str} {kvs : List (PyData × PyData)} (hx : T.gd[i]? = some (x, kvs)) (hk : keyB kvs = true) : ∃ u v, mg x = some u ∧ RelV v u ∧ (∀ H C, DR K w H C v (.dict kvs)) := by
  have q : T.gB K = true := congrArg (fun z : AlC => z.1.2) c.2
  unfold Tell.gB at q
  rw [Bool.and_eq_true] at q
  have q1 := List.all_eq_true.mp (Bool.and_eq_true_iff.mp q.2).1 _ (List.mem_of_getElem? hx)
  rw [Bool.and_eq_true] at q1
  obtain ⟨g1, g2⟩ := q1
  have q2 : T.gd.map (fun p => dH K (glV K p.1)) = T.gd.map fun p => xH w p.2 := congrArg (fun z : AlC => z.2) c.2
  have q3 : (T.gd.map (fun p => dH K (glV K p.1)))[i]? = (T.gd.map fun p => xH w p.2)[i]? := by rw [q2]
  rw [List.getElem?_map, List.getElem?_map, hx] at q3
  obtain ⟨u, r, dr⟩ := dB_ok (w := w) g2 (Option.some.inj q3) hk
  exact ⟨_, u, PySem.W.mg_of X G (glK_ok g1), r, dr⟩
theorem Tell.says.ckd (c : T.says w K) : T.ck K = true := by
  have q : T.gB K = true := congrArg (fun z : AlC => z.1.2) c.2
  unfold Tell.gB at q
  rw [Bool.and_eq_true] at q
  exact (Bool.and_eq_true_iff.mp q.2).2
/-- the module's tuple x, an object of its own -/
theorem Tell.says.tup (c : T.says w K) (X : K.In h) (G : h.Ns mainGlobals mg) {x : Str} {ds : List PyData} (hx : (x, PyData.tuple ds) ∈ T.gt) : ∃ a o, mg x = some (.ref a) ∧ K.lookup a = some o ∧ o.cls = .type "tuple" ∧ o.dict = none ∧ ∀ H C, DR K w H C (.ref a) (.tuple ds) := by
  obtain ⟨g1, g2⟩ := c.gt_ hx
  have m := PySem.W.mg_of X G (glK_ok g1)
  obtain ⟨u, r, dr⟩ := vB_ok (w := w) 4 _ _ g2
  cases hv : glV K x with
  | ref a =>
    rw [hv] at g2 r m
    obtain ⟨its, m2, sl, e2, _, _⟩ := seqB g2
    have eu : u = .ref a := by
      have z := dr (fun _ => none) (fun _ => False)
      cases z with
      | tup _ _ => cases r; rfl
    subst eu
    exact ⟨a, _, m, e2, rfl, rfl, dr⟩
  | _ => rw [hv] at g2; exact Bool.noConfusion g2
/-- an error class of the module -/
theorem exc_at {x : Str} (X : Cx) (hK : X.K = K) (hm : X.mg = mg) (XI : K.In h) (G : h.Ns mainGlobals mg) (c1 : (He.Fa.exc x).ok K = true) (c2 : (He.Fa.glo x).ok K = true) : ExcAt X x := by
  subst hK hm
  obtain ⟨e1, e2, e3, e4⟩ := He.exc_ok c1
  exact ⟨_, _, _, _, _, PySem.F.excBase_ValueError, e1, He.glo_ok XI G c2, e2, raises_own e3 e4⟩
end
/-! ### a law -/
section
variable {P : Program} {w : World} {K : PySem.W.Frag} {mg : Str → Option Value} {base : Heap} {J : Info} {n : Known}
/-- fn_step, the def's object named; lambdas may be made -/
theorem fn_named {k : Nat} (mo : ModOk K w mg J n) (prev : ∀ x ∈ n.fs, FnAt P w K mg base J k (k + 3) x) {x : Str} {f : Addr} {fd : FuncData} {ps N : List Str} {d : FnD} {qual x' : Str} {params : Arguments} {body : List Stmt} {scope : Scope}
    (F : FunD K x' qual params body scope [] [] f fd) (S : FnScope N ps scope) (h2 : J.fns x = some d) (h3 : ps.length = d.np) (h4 : N.length = d.np + d.ns) (h5 : chkSs (n.envL N scope) d.body body = true)
    (hT : ∃ c P, LamX.TabB base mg c P ∧ fd.code = .ref c ∧ tnK K P = some ((qual ++ ".<locals>.") ++ "<lambda>")) (hW : ∀ x tb fine, n.ws.lookup x = some (tb, fine) → WordAt K mg x tb fine) :
    FnOk P w K mg base (L2.CX P w) (k + 6) f fd ps (spI K w mg J (k + 1) x d.np) := by
  obtain ⟨oc, od, dV, kV, doc, pm, an, cdv, ct, osl, rfl, lk, hcd, _, _⟩ := F.ex
  refine fn_of lk hcd S (fun vs H Q E ⟨_, _, _, _, _, _, _, hl, _⟩ => by rw [hl, h3]) fun A outer s H vs Q E hr ⟨b, fm, M, ws, m, hbM, rw_, hl, h⟩ => ?_
  have hws := calln_len h.ne h2
  have good : GoodS (cxOf (L2.CX P w) P w K mg base N qual scope f cdv A outer s H E) (fun cls d _ H => E cls d H) M.length J k (k + 3) (n.envL N scope) := by
    refine ⟨⟨rfl, S.nd, ?_, takes_of rfl rfl rfl rfl, rfl, rfl, fun y hy => ⟨?_, .inl rfl⟩, mo.blt, mo.glob _ rfl rfl rfl, mo.tups _ rfl rfl rfl, prev, hr.mono (by omega), fun _ => ⟨hr, hT, hW⟩, by omega, mo.cls _ rfl rfl rfl _ (by omega)⟩, S.kind, passes_of rfl, rfl, rfl, mo.exc _ rfl rfl, mo.exf, mo.exm⟩
    · have := hr.un
      show (A.deeper _).units + 100 < cLine
      omega
    · exact tgB_def hy
  have bd := mSs J k d.body _ _ M.length (k + 3) _ (asgdS d.body) good (fun _ z => z) _ h5
  refine ⟨_, bd, fm, ws.map some ++ List.replicate d.ns none, M, ⟨m, Nat.le_refl _, SlR.start rw_ (by rw [h4, hl])⟩, ?_⟩
  unfold calln at h
  simp only [h2, hws, if_true] at h
  exact leave_ok (X := cxOf (L2.CX P w) P w K mg base N qual scope f cdv A outer s H E) rfl m hbM h
theorem fn_quiet {k : Nat} {f : Addr} {fd : FuncData} {ps : List Str} {sp : Sp} (F : FnOk P w K mg base (L2.CX P w) k f fd ps sp) : FnOk P w K mg base CX0 k f fd ps (fun vs H Q _ => sp vs H Q E0) := by
  refine ⟨fun vs H Q E h => F.len vs H Q E0 h, fun A outer s H args us vs Q E hr he hb hv hs => codeAny_mono (F.run A outer s H args us vs Q E0 hr he hb hv hs) fun r s' h => ?_⟩
  cases r with
  | error e =>
    obtain ⟨_, _, _, _, _, _, _, _, _, _, _, _, z⟩ := h
    exact z.elim
  | ok fl => cases fl <;> exact h
end
end Cs
set_option Elab.async false
set_option linter.all false
set_option autoImplicit false
set_option maxRecDepth 100000
set_option maxHeartbeats 2000000
/-! A module's defs, names and error classes told once; a law's end. -/
namespace Cs
open PySem L2 PyProof.Rows
/-- one def: its name, its statement, its locals, its parameters, what it is in the interpreter -/
structure DefT where
  x : Str
  st : Stmt
  N : List Str
  ps : List Str
  d : FnD
def DefT.dd (t : DefT) : He.DefD := ⟨(t.x, none), t.x, t.x, defArgs t.st, defBody t.st, defScope t.st, [], []⟩
/-- a helper that calls what it gets: its name, its statement, its parameter, what it answers to each error, to none; its clauses -/
structure WordT where
  x : Str
  st : Stmt
  a : Str
  tb : List (Str × Str)
  fine : Str
  hl : List (Str × Str)
def WordT.dd (t : WordT) : He.DefD := ⟨(t.x, none), t.x, t.x, defArgs t.st, defBody t.st, defScope t.st, [], []⟩
/-- an error class with an __init__ that sets one field: its name, the field, the class whose __init__ it calls, its own __init__ -/
structure EfT where
  x : Str
  fld : Str
  bx : Str
  slf : Str
  par : Str
  ini : Stmt
def EfT.dd (t : EfT) : He.DefD := ⟨(t.x, some "__init__"), "__init__", t.x ++ ".__init__", defArgs t.ini, defBody t.ini, defScope t.ini, [], []⟩
/-- errors of the class are asked rightly as values -/
def ecB (K : PySem.W.Frag) (C : Addr) : Bool := xfB K C && (decide (PySem.W.findIn K (.ref C) "__str__" = some (some (.builtin "BaseException.__str__"))) && (decide (PySem.W.findIn K (.ref C) "__class__" = some (some (.builtin "object.__class__"))) &&
  (decide (PySem.W.specialIn K (.builtin "object.__class__") "__get__" = some (some (.builtin "getset_descriptor.__get__"))) && (decide (PySem.W.takesIn K (.builtin "object.__class__") = some true) && decide (PySem.W.mroIn K C (.type "object") = some true)))))
theorem ecB_ok {K : PySem.W.Frag} {C : Addr} (h : ecB K C = true) : ErrC K C := by
  unfold ecB at h
  simp only [Bool.and_eq_true, decide_eq_true_eq] at h
  obtain ⟨h1, h2, h3, h4, h5, h6⟩ := h
  have x := xfB_ok h1
  exact ⟨⟨x.ga, x.gg, x.exC, x.hdC, h3, h4, h5, h6⟩, x, h2⟩
def oexB (K : PySem.W.Frag) (C : Addr) : Bool := (match K.lookup C with
  | some ⟨.type "type", _, .cls cd, sl⟩ => (match cd.mro, sl.toList with
    | .ref C' :: bm, [_, _, _, _, some (.builtin n), _] => C' == C && (n == "ValueError.__new__" && (!cd.hasDel && (cd.hasDict && PySem.HandSPX.refsVE bm)))
    | _, _ => false)
  | _ => false) && (decide (PySem.W.findIn K (.ref C) "__setattr__" = some (some (.builtin "object.__setattr__"))) && (decide (PySem.W.subIn K (.ref C) (.type "BaseException") = some true) && (decide (PySem.W.typeIn K (.ref C) = some (.type "type")) && PySem.W.keepIn K (.ref C))))
theorem oexB_ok {K : PySem.W.Frag} {C : Addr} (h : oexB K C = true) : OexC K C := by
  unfold oexB at h
  simp only [Bool.and_eq_true, decide_eq_true_eq] at h
  obtain ⟨h1, h2, h3, h4, h5⟩ := h
  refine ⟨?_, h2, h3, h4, h5⟩
  split at h1
  · rename_i dd cd sl ho
    split at h1
    · rename_i C' bm k0 k1 k2 k3 n k5 hm hs
      simp only [Bool.and_eq_true, beq_iff_eq, Bool.not_eq_true'] at h1
      obtain ⟨rfl, rfl, hdel, hd, hr⟩ := h1
      obtain ⟨nm, bs, mro, ns, qn, hd', sn, sub, ab, col, del⟩ := cd
      dsimp only at hm hdel hd
      subst hm hdel hd
      have hsl : sl = #[k0, k1, k2, k3, some (.builtin "ValueError.__new__"), k5] := by
        obtain ⟨l⟩ := sl
        simp only at hs
        rw [hs]
      subst hsl
      exact ⟨nm, qn, ns, bs, bm, sn, sub, ab, col, dd, k0, k1, k2, k3, k5, ho, hr⟩
    · cases h1
  · cases h1
def isVal : Option PySem.W.CFound → String → Bool
  | some (.val (.builtin n)), s => n == s
  | _, _ => false
theorem isVal_ok {o : Option PySem.W.CFound} {s : String} (h : isVal o s = true) : o = some (.val (.builtin s)) := by
  unfold isVal at h
  split at h
  · rw [eq_of_beq h]
  · cases h
/-- an error class with a field -/
def efB (K : PySem.W.Frag) (t : EfT) : Bool := oexB K (He.ga K t.x) && (decide (PySem.W.findIn K (.ref (He.ga K t.x)) t.fld = some none) && (decide (PySem.W.findIn K (.ref (He.ga K t.x)) "__init__" = some (some (.ref (He.ma K (He.ga K t.x) "__init__")))) &&
  (decide (PySem.W.typeIn K (.ref (He.ma K (He.ga K t.x) "__init__")) = some (.type "function")) && (decide (PySem.W.specialIn K (.ref (He.ga K t.bx)) "__getattribute__" = some (some (.builtin "type.__getattribute__"))) &&
  (PySem.W.readsIn K (He.ga K t.bx) (.type "type") && isVal (PySem.W.findCls K (.ref (He.ga K t.bx)) (.type "type") "__init__") "ValueError.__init__")))))
/-- a module: its defs, its error classes (each with all that it is a kind of), its data, its dicts; the law; helpers -/
structure Mdl where
  ts : List DefT
  sup : List (Str × List Str)
  gt : List (Str × PyData)
  gd : List (Str × List (PyData × PyData))
  lw : DefT
  ws : List WordT
  ef : List EfT := []
  xk : List Str := []
  xe : List Str := []
  ia : List (Str × (List Str × List Str)) := []
  fa : List (Str × (Str × Bool)) := []
namespace Mdl
variable (m : Mdl)
def al : List Str := m.sup.map (·.1)
def efs : List (Str × Str) := m.ef.map fun t => (t.x, t.fld)
def es : List Str := m.al.filter fun x => !(m.ef.any fun t => t.x == x)
def cd : ClsK := ⟨m.xe, m.efs, m.ia, m.fa, m.al⟩
/-- a class as a value -/
def cv (K : PySem.W.Frag) (n : Str) : Value := if m.al.contains n then .ref (He.ga K n) else .type "ValueError"
def ckB (K : PySem.W.Frag) : Bool := (m.ef.all fun t => efB K t) && ((m.xk.all fun x => ecB K (He.ga K x)) && ((m.ia.all fun p => (p.2.1.all fun y => decide (PySem.W.kitOne K (.ref (He.ga K y)) (m.cv K p.1) = some true)) && p.2.2.all fun y => decide (PySem.W.kitOne K (.ref (He.ga K y)) (m.cv K p.1) = some false)) &&
  m.fa.all fun p => !p.2.2 || decide (PySem.W.findIn K (.ref (He.ga K p.1)) p.2.1 = some none)))
def sub (y x : Str) : Bool := ((m.sup.lookup y).getD []).contains x
def gs : List (Str × PyData) := m.gt ++ m.gd.map fun p => (p.1, .dict p.2)
def tupN : List Str := m.gt.filterMap fun p => match p.2 with
  | .tuple _ => some p.1
  | _ => none
def all : List DefT := m.ts ++ [m.lw]
def dds : List He.DefD := m.all.map DefT.dd ++ (m.ws.map WordT.dd ++ m.ef.map EfT.dd)
def tell : Tell := ⟨(m.dds.map fun t => .glo t.at_.1) ++ (blNames.map .free ++ (m.al.map .glo ++ (m.es.map .exc ++ ((m.al.flatMap fun y => m.al.map fun x => .exm y x (m.sub y x)) ++ (if m.ia.isEmpty then [] else [.free "ValueError"]))))), m.dds, m.gt, m.gd, m.ckB⟩
def info : Info where
  glob := fun x => m.gs.lookup x
  fns := fun x => (m.all.map fun t => (t.x, t.d)).lookup x
  att := fun x => match m.efs.lookup x with
    | some f => some (some f)
    | none => if m.al.contains x then some none else none
  sub := m.sub
def known : Known := ⟨m.ts.map (·.x), m.gs.map (·.1), m.tupN, m.es, m.ws.map fun t => (t.x, (t.tb, t.fine)), m.cd⟩
end Mdl
theorem He.lookup_mem' {α β : Type} [BEq α] [LawfulBEq α] : ∀ {l : List (α × β)} {x : α} {y : β}, l.lookup x = some y → (x, y) ∈ l
  | [], _, _, h => by cases h
  | (a, b) :: r, x, y, h => by
    rw [List.lookup_cons] at h
    cases q : (x == a) with
    | true =>
      rw [q] at h
      cases h
      rw [eq_of_beq q]
      exact List.mem_cons_self
    | false =>
      rw [q] at h
      exact List.mem_cons_of_mem _ (He.lookup_mem' h)
theorem lookup_mem {β : Type} : ∀ {l : List (Str × β)} {x : Str} {y : β}, (l.map (·.1)).Nodup → (x, y) ∈ l → l.lookup x = some y
  | [], _, _, _, h => by simp at h
  | (a, b) :: l, x, y, hn, h => by
    rw [List.map_cons, List.nodup_cons] at hn
    rcases List.mem_cons.mp h with e | h
    · cases e; simp [List.lookup]
    · have : ¬ x = a := fun e => hn.1 (e ▸ List.mem_map.mpr ⟨_, h, rfl⟩)
      rw [List.lookup_cons]
      have hb : (x == a) = false := by simpa using this
      rw [hb]
      exact lookup_mem hn.2 h
structure OkF (m : Mdl) (t : DefT) (c : CEnv) : Prop where
  sc : FnScope t.N t.ps (defScope t.st)
  bd : ∀ (kV doc pm : Value) (an : Option Addr) (cdv ct : Value) (us : List Value), us.length = t.ps.length → bindArgs (PySem.W.fnOf t.x t.x (defArgs t.st) (defBody t.st) (defScope t.st) .none kV doc pm an cdv ct) ⟨us, []⟩ = pure (t.ps.zip us)
  lp : t.ps.length = t.d.np
  lN : t.N.length = t.d.np + t.d.ns
  ck : chkSs c t.d.body (defBody t.st) = true
abbrev OkT (m : Mdl) (t : DefT) : Prop := OkF m t (m.known.env t.N (defScope t.st))
abbrev OkL (m : Mdl) (t : DefT) : Prop := OkF m t (m.known.envL t.N (defScope t.st))
/-- a helper's clauses -/
def hdB (sg : Scope) (es : List Str) : List (Str × Str) → List ExceptHandler → Bool
  | [], [] => true
  | (x, t) :: r, .ExceptHandler (some (.Name y _)) none [.Return (some (.Constant (.str s) _ _)) _] _ :: hds => (x == y) && ((t == s) && (glB sg x && (nmB x && (es.contains x && hdB sg es r hds))))
  | _, _ => false
def wordB (sg : Scope) (es : List Str) (a fine : Str) (hl : List (Str × Str)) : List Stmt → Bool
  | [.Try [.Expr (.Call (.Name b _) [] [] _) _] (h :: hds) [] [] _, .Return (some (.Constant (.str s) _ _)) _] => (a == b) && ((s == fine) && hdB sg es hl (h :: hds))
  | _ => false
def pickS (sub : Str → Str → Bool) (e : Str) : List (Str × Str) → Option Str
  | [] => none
  | (x, t) :: r => if sub e x then some t else pickS sub e r
structure OkW (m : Mdl) (t : WordT) : Prop where
  sc : FnScope [t.a] [t.a] (defScope t.st)
  vis : visB (defScope t.st) t.a = true
  nm : nmB t.a = true
  bd : ∀ (kV doc pm : Value) (an : Option Addr) (cdv ct : Value) (us : List Value), us.length = [t.a].length → bindArgs (PySem.W.fnOf t.x t.x (defArgs t.st) (defBody t.st) (defScope t.st) .none kV doc pm an cdv ct) ⟨us, []⟩ = pure ([t.a].zip us)
  bo : wordB (defScope t.st) m.al t.a t.fine t.hl (defBody t.st) = true
  tb : (t.tb.all fun p => m.al.contains p.1 && decide (pickS m.sub p.1 t.hl = some p.2)) = true
structure OkE (m : Mdl) (t : EfT) : Prop where
  sc : FnScope [t.slf, t.par] [t.slf, t.par] (defScope t.ini)
  bd : ∀ (kV doc pm : Value) (an : Option Addr) (cdv ct : Value) (us : List Value), us.length = [t.slf, t.par].length → bindArgs (PySem.W.fnOf "__init__" (t.x ++ ".__init__") (defArgs t.ini) (defBody t.ini) (defScope t.ini) .none kV doc pm an cdv ct) ⟨us, []⟩ = pure ([t.slf, t.par].zip us)
  bo : ∃ (msg : Str) (j : Nat) (p1 p2 p3 p4 p5 p6 q1 q2 q3 q4 : Pos), defBody t.ini = initBody t.bx t.slf t.par t.fld msg j p1 p2 p3 p4 p5 p6 q1 q2 q3 q4 ∧
    ∀ env : Env, ∃ pl : Sem Bool, eval (.Call (.Attribute (.Name t.bx p1) "__init__" p2) [.Name t.slf p3, .Constant (.str msg) j p4] [] p5) env = (do
      let ov ← eval (.Name t.bx p1) env
      standAt p2.atName
      let (f, first) ← holding [ov] (getMethod ov "__init__" pl)
      callWith p5 f first (backTo p5 (starEach [.Name t.slf p3, .Constant (.str msg) j p4] env)) (backToKw p5 (keywordEach [] env)))
  ck : (visB (defScope t.ini) t.slf && (visB (defScope t.ini) t.par && (nmB t.slf && (nmB t.par && (glB (defScope t.ini) t.bx && nmB t.bx))))) = true
structure OkM (m : Mdl) : Prop where
  n1 : (m.gs.map (·.1)).Nodup
  n2 : (m.all.map (·.x)).Nodup
  kb : ∀ p ∈ m.gd, keyB p.2 = true
  lw : OkL m m.lw
  ts : ∀ t ∈ m.ts, OkT m t
  ws : ∀ t ∈ m.ws, OkW m t
  ef : ∀ t ∈ m.ef, OkE m t
  efn : (m.ef.map (·.x)).Nodup
  sub : (m.xe.all (fun x => m.xk.contains x && m.es.contains x) && ((m.ia.all fun p => p.2.1.all (m.xk.contains ·) && (p.2.2.all (m.xk.contains ·) && (m.al.contains p.1 || p.1 == "ValueError"))) && ((m.fa.all fun p => p.2.2 && m.xk.contains p.1) && m.ef.all fun t => m.al.contains t.bx && m.al.contains t.x))) = true
section
variable {m : Mdl} {w : World} {K : PySem.W.Frag} {h : Heap} {mg : Str → Option Value}
theorem fact_ok (c : m.tell.says w K) {f : He.Fa} (hf : f ∈ m.tell.fa) : f.ok K = true := by
  have c1 : ((m.tell.fa.all fun f => f.ok K) && m.tell.fn.all fun d => d.ok K) = true := congrArg (fun z : He.AlD => z.1) c.saysD
  rw [Bool.and_eq_true] at c1
  exact List.all_eq_true.mp c1.1 f hf
theorem glo_d (c : m.tell.says w K) (X : K.In h) (G : h.Ns mainGlobals mg) {t : He.DefD} (ht : t ∈ m.dds) : mg t.at_.1 = some (.ref (He.ga K t.at_.1)) :=
  He.glo_ok X G (fact_ok c (List.mem_append.mpr (.inl (List.mem_map.mpr ⟨t, ht, rfl⟩))))
theorem fun_d (c : m.tell.says w K) {t : He.DefD} (ht : t ∈ m.dds) : ∃ fd, FunD K t.name t.qual t.params t.body t.scope (t.dvs K) (t.kws K) (He.fAd K t.at_) fd := by
  obtain ⟨i, hi, e⟩ := List.getElem_of_mem ht
  exact c.saysD.def_ i (d := t) (by show m.dds[i]? = some t; rw [List.getElem?_eq_getElem hi, e])
theorem in_all {t : DefT} (ht : t ∈ m.all) : t.dd ∈ m.dds := List.mem_append.mpr (.inl (List.mem_map.mpr ⟨t, ht, rfl⟩))
theorem glo_t (c : m.tell.says w K) (X : K.In h) (G : h.Ns mainGlobals mg) {t : DefT} (ht : t ∈ m.all) : mg t.x = some (.ref (He.ga K t.x)) := glo_d c X G (in_all ht)
theorem fun_t (c : m.tell.says w K) {t : DefT} (ht : t ∈ m.all) : ∃ fd, FunD K t.x t.x (defArgs t.st) (defBody t.st) (defScope t.st) [] [] (He.ga K t.x) fd := fun_d c (in_all ht)
theorem fns_t (o : OkM m) {t : DefT} (ht : t ∈ m.all) : m.info.fns t.x = some t.d :=
  lookup_mem (by rw [List.map_map]; exact o.n2) (List.mem_map.mpr ⟨t, ht, rfl⟩)
theorem defs_all (o : OkM m) (c : m.tell.says w K) (X : K.In h) (G : h.Ns mainGlobals mg) : ∀ x ∈ m.known.fs, DefAt K mg m.info m.known x := by
  intro x hx
  obtain ⟨t, ht, rfl⟩ := List.mem_map.mp hx
  have ht' : t ∈ m.all := List.mem_append.mpr (.inl ht)
  obtain ⟨fd, F⟩ := fun_t c ht'
  have k := o.ts t ht
  exact ⟨_, fd, t.ps, t.d, t.N, t.x, t.x, _, _, _, glo_t c X G ht', F, k.sc, F.bindsN k.bd, fns_t o ht', k.lp, k.lN, k.ck⟩
theorem glo_f {x : Str} (hx : x ∈ m.al) : He.Fa.glo x ∈ m.tell.fa := List.mem_append.mpr (.inr (List.mem_append.mpr (.inr (List.mem_append.mpr (.inl (List.mem_map.mpr ⟨x, hx, rfl⟩))))))
theorem es_al {x : Str} (h : x ∈ m.es) : x ∈ m.al := (List.mem_filter.mp h).1
theorem glo_c (c : m.tell.says w K) (X : K.In h) (G : h.Ns mainGlobals mg) {x : Str} (hx : x ∈ m.al) : mg x = some (.ref (He.ga K x)) := He.glo_ok X G (fact_ok c (glo_f hx))
theorem exm_m (c : m.tell.says w K) (X : K.In h) (G : h.Ns mainGlobals mg) {y x : Str} (hy : y ∈ m.al) (hx : x ∈ m.al) : mg x = some (.ref (He.ga K x)) ∧ PySem.W.exmOne K (.ref (He.ga K y)) (.ref (He.ga K x)) = some (m.sub y x) :=
  ⟨glo_c c X G hx,
    He.exm_ok (fact_ok c (f := .exm y x (m.sub y x)) (List.mem_append.mpr (.inr (List.mem_append.mpr (.inr (List.mem_append.mpr (.inr (List.mem_append.mpr (.inr (List.mem_append.mpr (.inl (List.mem_flatMap.mpr ⟨y, hy, List.mem_map.mpr ⟨x, hx, rfl⟩⟩))))))))))))⟩
theorem efs_look (o : OkM m) {p : Str × Str} (hp : p ∈ m.efs) : m.info.att p.1 = some (some p.2) := by
  have := lookup_mem (l := m.efs) (x := p.1) (y := p.2) (by unfold Mdl.efs; rw [List.map_map]; exact o.efn) hp
  show (match m.efs.lookup p.1 with | some f => some (some f) | none => if m.al.contains p.1 then some none else none) = _
  rw [this]
theorem att_es {x : Str} (h : x ∈ m.es) : m.info.att x = some none := by
  obtain ⟨h1, h2⟩ := List.mem_filter.mp h
  show (match m.efs.lookup x with | some f => some (some f) | none => if m.al.contains x then some none else none) = _
  cases e : m.efs.lookup x with
  | none => simp only; rw [if_pos (by simpa using h1)]
  | some f =>
    have hm := He.lookup_mem' e
    obtain ⟨t, ht, q⟩ := List.mem_map.mp hm
    cases q
    rw [Bool.not_eq_true', List.any_eq_false] at h2
    exact absurd (beq_self_eq_true t.x) (h2 t ht)
theorem att_al (o : OkM m) {y : Str} (h : (m.info.att y).isSome = true) : y ∈ m.al := by
  have h : (match m.efs.lookup y with | some f => some (some f) | none => if m.al.contains y then some none else none).isSome = true := h
  cases e : m.efs.lookup y with
  | none =>
    rw [e] at h
    simp only at h
    split at h
    · rename_i z; simpa using z
    · simp at h
  | some f =>
    obtain ⟨t, ht, q⟩ := List.mem_map.mp (He.lookup_mem' e)
    cases q
    have := o.sub
    simp only [Bool.and_eq_true, List.all_eq_true] at this
    have := (this.2.2.2 t ht).2
    simpa using this
theorem cls_all (o : OkM m) (c : m.tell.says w K) (XI : K.In h) (G : h.Ns mainGlobals mg) (Y : Cx) (hK : Y.K = K) (hm : Y.mg = mg) (dp : Nat) (h2 : 2 ≤ dp) : ClsOk Y dp m.known.cd := by
  subst hK hm
  have ck : m.ckB Y.K = true := c.ckd
  unfold Mdl.ckB at ck
  simp only [Bool.and_eq_true, List.all_eq_true] at ck
  obtain ⟨k1, k2, k3, k4⟩ := ck
  have os := o.sub
  simp only [Bool.and_eq_true, List.all_eq_true] at os
  obtain ⟨s1, s2, s3, s4⟩ := os
  have xk : ∀ {y : Str}, m.xk.contains y = true → ErrC Y.K (He.ga Y.K y) := fun {y} hy => ecB_ok (k2 y (by simpa using hy))
  have cvn : ∀ p ∈ m.ia, NmC Y p.1 (m.cv Y.K p.1) := fun p hp => by
    unfold Mdl.cv
    by_cases ha : m.al.contains p.1 = true
    · rw [if_pos ha]
      exact .inl ⟨_, glo_c c XI G (by simpa using ha), rfl⟩
    · rw [if_neg ha]
      have z := (s2 p hp).2.2
      rw [Bool.or_eq_true] at z
      have e : p.1 = "ValueError" := by
        rcases z with z | z
        · exact absurd z ha
        · exact eq_of_beq z
      refine .inr ⟨?_, by rw [e]; decide, "ValueError", by rw [e]; decide +kernel, rfl⟩
      rw [e]
      refine He.free_ok XI G (fact_ok c (List.mem_append.mpr (.inr (List.mem_append.mpr (.inr (List.mem_append.mpr (.inr (List.mem_append.mpr (.inr (List.mem_append.mpr (.inr ?_)))))))))))
      have hne : m.ia.isEmpty = false := by
        cases hi : m.ia with
        | nil => rw [hi] at hp; cases hp
        | cons _ _ => rfl
      rw [hne]
      exact List.mem_singleton.mpr rfl
  refine ⟨fun x hx => ?_, fun p hp => ?_, fun p hp => ⟨m.cv Y.K p.1, cvn p hp, fun y hy => ⟨xk ((s2 p hp).1 y hy), of_decide_eq_true ((k3 p hp).1 y hy)⟩, fun y hy => ⟨xk ((s2 p hp).2.1 y hy), of_decide_eq_true ((k3 p hp).2 y hy)⟩⟩, fun p hp => ⟨fun e => ⟨xk (s3 p hp).2, ?_⟩, fun e => ?_⟩⟩
  · have hx := s1 x hx
    have hes : x ∈ m.es := by simpa using hx.2
    obtain ⟨e1, e2, _, _⟩ := He.exc_ok (fact_ok c (f := .exc x) (List.mem_append.mpr (.inr (List.mem_append.mpr (.inr (List.mem_append.mpr (.inr (List.mem_append.mpr (.inl (List.mem_map.mpr ⟨x, hes, rfl⟩))))))))))
    exact ⟨⟨_, _, _, _, PySem.F.excBase_ValueError, e1⟩, glo_c c XI G (es_al hes), e2, xk hx.1⟩
  · obtain ⟨t, ht, rfl⟩ := List.mem_map.mp hp
    have hal := s4 t ht
    have hx : t.x ∈ m.al := by simpa using hal.2
    have hbx : t.bx ∈ m.al := by simpa using hal.1
    refine ⟨glo_c c XI G hx, ?_⟩
    have f := k1 t ht
    unfold efB at f
    simp only [Bool.and_eq_true, decide_eq_true_eq] at f
    obtain ⟨f1, f2, f3, f4, f5, f6, f7⟩ := f
    have hd : t.dd ∈ m.dds := List.mem_append.mpr (.inr (List.mem_append.mpr (.inr (List.mem_map.mpr ⟨t, ht, rfl⟩))))
    have ok := o.ef t ht
    obtain ⟨fd, F⟩ := fun_d c hd
    have F : FunD Y.K "__init__" (t.x ++ ".__init__") (defArgs t.ini) (defBody t.ini) (defScope t.ini) [] [] (He.ma Y.K (He.ga Y.K t.x) "__init__") fd := F
    have bn := F.bindsN ok.bd
    obtain ⟨oc, od, dV, kV, doc, pm, an, cdv, ct, osl, rfl, lk, hcd, _, _⟩ := F.ex
    obtain ⟨msg, j, p1, p2, p3, p4, p5, p6, q1, q2, q3, q4, eb, hcall⟩ := ok.bo
    have ckk := ok.ck
    simp only [Bool.and_eq_true] at ckk
    obtain ⟨c1, c2, c3, c4, c5, c6⟩ := ckk
    rw [eb] at lk bn
    exact ⟨_, _, _, t.slf, t.par, 1, oexB_ok f1, f2, glo_c c XI G hx, f3, f4, init_fn (k := 0) lk hcd ok.sc c1 c2 c3 c4 c5 c6 (glo_c c XI G hbx) f5 f6 (isVal_ok f7) hcall, bn, h2⟩
  · have z := k4 p hp
    rw [e] at z
    simpa using z
  · have := (s3 p hp).1
    rw [e] at this
    cases this
theorem mod_ok (o : OkM m) (c : m.tell.says w K) (X : K.In h) (G : h.Ns mainGlobals mg) : ModOk K w mg m.info m.known := by
  refine ⟨fun x hx => ?_, fun Y hK hw hm x hx => ?_, fun Y hK hw hm x hx => ?_, fun Y hK hm x hx => ?_, fun Y hK hw hm dp h2 => cls_all o c X G Y hK hm dp h2, fun p hp => efs_look o hp, fun x hx => ⟨_, glo_c c X G hx, fun y ca hy e1 => ?_⟩⟩
  · exact He.free_ok X G (fact_ok c (List.mem_append.mpr (.inr (List.mem_append.mpr (.inl (List.mem_map.mpr ⟨x, hx, rfl⟩))))))
  · subst hK hw hm
    obtain ⟨p, hp, rfl⟩ := List.mem_map.mp hx
    refine ⟨p.2, lookup_mem o.n1 hp, ?_⟩
    rcases List.mem_append.mp hp with q | q
    · exact c.glo X G (x := p.1) (d := p.2) q
    · obtain ⟨r, hr, rfl⟩ := List.mem_map.mp q
      obtain ⟨i, hi, e⟩ := List.getElem_of_mem hr
      exact c.gdi X G (i := i) (x := r.1) (kvs := r.2) (by show m.gd[i]? = some (r.1, r.2); rw [List.getElem?_eq_getElem hi, e]) (o.kb r hr)
  · subst hK hw hm
    obtain ⟨p, hp, e⟩ := List.mem_filterMap.mp hx
    obtain ⟨a, d⟩ := p
    cases d with
    | tuple ds =>
      obtain rfl : a = x := Option.some.inj e
      exact ⟨ds, lookup_mem o.n1 (List.mem_append.mpr (.inl hp)), c.tup X G hp⟩
    | _ => cases e
  · refine ⟨exc_at Y hK hm X G (fact_ok c ?_) (fact_ok c ?_), ?_⟩
    · exact List.mem_append.mpr (.inr (List.mem_append.mpr (.inr (List.mem_append.mpr (.inr (List.mem_append.mpr (.inl (List.mem_map.mpr ⟨x, hx, rfl⟩))))))))
    · exact glo_f (es_al hx)
    · exact att_es hx
  · have hy' : y ∈ m.al := att_al o hy
    rw [glo_c c X G hy'] at e1; cases e1
    exact (exm_m c X G hy' hx).2
theorem hw_of (c : m.tell.says w K) (X : K.In h) (G : h.Ns mainGlobals mg) {sg : Scope} : ∀ {hl : List (Str × Str)} {hds : List ExceptHandler}, hdB sg m.al hl hds = true → HW mg sg hds (hl.map fun p => (.ref (He.ga K p.1), p.2)) ∧ ∀ p ∈ hl, p.1 ∈ m.al
  | [], [], _ => ⟨.nil, fun _ h => by cases h⟩
  | [], _ :: _, h => Bool.noConfusion h
  | (x, t) :: r, [], h => Bool.noConfusion h
  | (x, t) :: r, hd :: hds, h => by
    cases hd with
    | ExceptHandler ty nm body pos => cases ty with
      | none => exact Bool.noConfusion h
      | some ty => cases ty with
        | Name y np => cases nm with
          | some _ => exact Bool.noConfusion h
          | none => cases body with
            | nil => exact Bool.noConfusion h
            | cons st rest => cases st with
              | Return v p2 => cases v with
                | none => exact Bool.noConfusion h
                | some v => cases v with
                  | Constant kk j p1 => cases kk with
                    | str s => cases rest with
                      | nil =>
                        have h : ((x == y) && ((t == s) && (glB sg x && (nmB x && (m.al.contains x && hdB sg m.al r hds))))) = true := h
                        simp only [Bool.and_eq_true, nmB, Bool.not_eq_true'] at h
                        obtain ⟨q1, q2, q3, ⟨q4, _⟩, q5, q6⟩ := h
                        have := eq_of_beq q1
                        subst this
                        have := eq_of_beq q2
                        subst this
                        obtain ⟨z1, z2⟩ := hw_of c X G q6
                        have hx : x ∈ m.al := by simpa using q5
                        have hg : sg.names.lookup x = some .globalImplicit := by
                          unfold glB at q3
                          split at q3
                          · assumption
                          · cases q3
                        exact ⟨.cons hg q4 (exm_m c X G hx hx).1 z1, fun p hp => (List.mem_cons.mp hp).elim (fun e => by rw [e]; exact hx) (z2 p)⟩
                      | cons _ _ => exact Bool.noConfusion h
                    | _ => exact Bool.noConfusion h
                  | _ => exact Bool.noConfusion h
              | _ => exact Bool.noConfusion h
        | _ => exact Bool.noConfusion h
theorem pick_m (c : m.tell.says w K) (X : K.In h) (G : h.Ns mainGlobals mg) {e t : Str} (he : e ∈ m.al) : ∀ {hl : List (Str × Str)}, (∀ p ∈ hl, p.1 ∈ m.al) → pickS m.sub e hl = some t → pick K (.ref (He.ga K e)) (hl.map fun p => (.ref (He.ga K p.1), p.2)) = some t
  | [], _, h => by cases h
  | (x, t') :: r, hm, h => by
    have hx := (exm_m c X G he (hm (x, t') List.mem_cons_self)).2
    show (match PySem.W.exmOne K (.ref (He.ga K e)) (.ref (He.ga K x)) with | some true => some t' | some false => pick K (.ref (He.ga K e)) (r.map fun p => (.ref (He.ga K p.1), p.2)) | none => none) = some t
    rw [hx]
    have h : (if m.sub e x then some t' else pickS m.sub e r) = some t := h
    cases hs : m.sub e x with
    | true => rw [hs] at h; exact h
    | false => rw [hs] at h; exact pick_m c X G he (fun p hp => hm p (List.mem_cons_of_mem _ hp)) h
theorem wordB_inv {sg : Scope} {es : List Str} {a fine : Str} {hl : List (Str × Str)} {b : List Stmt} (h : wordB sg es a fine hl b = true) :
    ∃ p1 p2 p3 h₀ hds p8 j p5 p6, b = [.Try [.Expr (.Call (.Name a p1) [] [] p2) p3] (h₀ :: hds) [] [] p8, .Return (some (.Constant (.str fine) j p5)) p6] ∧ hdB sg es hl (h₀ :: hds) = true := by
  unfold wordB at h
  split at h
  · simp only [Bool.and_eq_true] at h
    obtain ⟨q1, q2, q3⟩ := h
    have := eq_of_beq q1
    subst this
    have := eq_of_beq q2
    subst this
    exact ⟨_, _, _, _, _, _, _, _, _, rfl, q3⟩
  · cases h
theorem words_all (o : OkM m) (c : m.tell.says w K) (X : K.In h) (G : h.Ns mainGlobals mg) : ∀ x tb fine, m.known.ws.lookup x = some (tb, fine) → WordAt K mg x tb fine := by
  intro x tb fine hx
  obtain ⟨t, ht, e⟩ := List.mem_map.mp (He.lookup_mem' hx)
  cases e
  have hd : t.dd ∈ m.dds := List.mem_append.mpr (.inr (List.mem_append.mpr (.inl (List.mem_map.mpr ⟨t, ht, rfl⟩))))
  have k := o.ws t ht
  obtain ⟨fd, F⟩ := fun_d c hd
  have F : FunD K t.x t.x (defArgs t.st) (defBody t.st) (defScope t.st) [] [] (He.ga K t.x) fd := F
  have kp := F.kp
  have bn := F.bindsN k.bd
  obtain ⟨oc, od, dV, kV, doc, pm, an, cdv, ct, osl, rfl, lk, hcd, _, _⟩ := F.ex
  obtain ⟨p1, p2, p3, h₀, hds, p8, j, p5, p6, eb, hb⟩ := wordB_inv k.bo
  obtain ⟨z1, z2⟩ := hw_of c X G hb
  have hn : (t.a == ("__debug__" : Str)) = false ∧ (t.a == ("__classdict__" : Str)) = false := by
    have := k.nm
    simp only [nmB, Bool.and_eq_true, Bool.not_eq_true'] at this
    exact this
  refine ⟨_, _, _, _, dV, kV, doc, pm, cdv, ct, oc, an, od, osl, [t.a], t.a, h₀, hds, _, j, p1, p2, p3, p5, p6, p8, glo_d c X G hd, kp, lk, hcd, bn, k.sc, rfl, visB_def k.vis, hn.1, hn.2, eb, z1, fun e txt he ca hca => ?_⟩
  have q := List.all_eq_true.mp k.tb (e, txt) (He.lookup_mem' he)
  simp only [Bool.and_eq_true, decide_eq_true_eq] at q
  have he' : e ∈ m.al := by simpa using q.1
  rw [(exm_m c X G he' he').1] at hca
  cases hca
  exact pick_m c X G he' z2 q.2
end
/-! ### the end of a law -/
theorem script_rw {K : PySem.W.Frag} {w : World} {f : Fm} {H : Hp} {a : Addr} {ns : List Int} (hf : ∀ a, ¬ f.hid a) (hl : ∀ a o, K.lookup a = some o → noL o = true) (h : SqL K H a (ns.map V.int)) : RW K w f [] H (.ref a) (.d (.list (ns.map .int))) := by
  have dr : ∀ (C : Addr → Prop) (l : List Int), DRs K w H C (l.map V.int) (l.map .int) := by
    intro C l
    induction l with
    | nil => exact .nil
    | cons i l ih => exact .cons (.int i) ih
  rcases h with h | ⟨o, its, n, h1, h2, _⟩
  · exact .lst ⟨h, fun hc => hc.elim (fun ⟨n, hn, _⟩ => absurd hn (Nat.not_lt_zero _)) (fun hh => hf _ hh)⟩ (dr _ ns)
  · have := hl a o h1
    unfold noL at this
    rw [h2] at this
    exact Bool.noConfusion (show false = true from this)
theorem law_walk {l : PySem.W.OpenLaw} {m : Mdl} {n0 kk nn : Nat} {q : Program} {loose : List Str} {XP : (Str → Option Value) → Heap → Prop} {d : DefRec} {x : Str} (o : OkM m) (hx : m.lw.ps = [x]) (hlw : m.lw.x = "law") (hd : d.name = "law")
    (hn : l.most = some nn) (hn2 : nn ≤ sizeLine) (hdf : d.params.defaults = []) (hr : Room (kk + 6) callerA)
    (res : ∀ ns : List Int, ns.length ≤ nn → ∃ M, calln m.info (kk + 1) "law" [.d (.list (ns.map .int))] [] = .ok (.d (.bool true)) M) :
    PySem.W.WalkO q loose XP (m.tell.hook n0).says l.row.toRowW d [] (fun f vs => PySem.call f vs) := by
  refine LamX.walk_ofTsE (l := l) (n := nn) (k := kk + 6) (x := x) (CX := fun _ => CX0) hn hn2 hdf hr ?_ (fun _ _ _ _ _ z => z)
  intro w mg fa h Y G hmg
  obtain ⟨K, KX, c, T⟩ := Y
  have ht : m.lw ∈ m.all := List.mem_append.mpr (.inr (List.mem_singleton.mpr rfl))
  rw [hd, ← hlw, glo_t c KX G ht] at hmg
  cases hmg
  obtain ⟨fd, F⟩ := fun_t c ht
  have k := o.lw
  have bd := F.bindsA k.bd
  have np : m.lw.d.np = 1 := by rw [← k.lp, hx]; rfl
  have hcode : fd.code = .ref (He.cT K lawDef).1 := by
    obtain ⟨oc, od, dV, kV, doc, pm, an, cdv, ct, osl, rfl, lk, hcd, _, _⟩ := F.ex
    obtain ⟨cc, rfl⟩ := He.codeIn_ref hcd
    have := He.codeOf_eq (K := K) (p := lawDef) (by rw [hlw] at lk; exact lk) rfl
    show Value.ref cc = .ref (He.codeOf K lawDef)
    rw [this]
  refine ⟨K, KX, fd, [He.cT K lawDef], fun vs H Q _ => spI K w mg m.info (kk + 1) "law" m.lw.d.np vs H Q E0, fun p hp => ?_, fun p hp => ?_, fun p hp => ?_, fun s u => ?_, fun H a ns hl hbits hT hS => ?_, fun base hb hg hTB => ?_⟩
  · rw [List.mem_singleton.mp hp]; exact T.empty
  · rw [List.mem_singleton.mp hp]; exact T.out
  · rw [List.mem_singleton.mp hp]; exact PySem.W.codeHd_of_K KX T.hd
  · have := bd s [u] (by rw [hx]; rfl)
    rw [hx] at this
    exact this
  · obtain ⟨M, e⟩ := res ns hl
    refine ⟨0, ⟨fun _ => 0, fun _ => False, tnK K⟩, [], [.d (.list (ns.map .int))], ⟨fun n c e => by simp at e, fun i j hi => by simp at hi, fun n hn => by simp at hn, fun a ha => ha.elim, fun P q h => ?_, rfl⟩, Nat.le_refl _, ⟨script_rw (fun _ h => h) c.1 hS, trivial⟩, by rw [np]; rfl, ?_⟩
    · have h : (if P = (He.cT K lawDef).2 then some ((("law" : Str) ++ ".<locals>.") ++ "<lambda>") else none) = some q := h
      split at h
      · rename_i hP
        refine ⟨#[], by rw [hP]; exact hT _ (List.mem_singleton.mpr rfl), True.intro, fun pos cv hc => ?_⟩
        have z : codeAmong pos [] = some cv := hc
        simp [codeAmong] at z
      · cases h
    · rw [e]
      exact fun f' H' _ _ v rv => RW.isBl rv
  · rw [← hx]
    have TB := hTB _ (List.mem_singleton.mpr rfl)
    have hf := fns_t o ht
    rw [hlw] at hf
    refine fn_quiet (fn_named (mod_ok o c hb hg) (fn_all (mod_ok o c hb hg) (defs_all o c hb hg) kk) F k.sc hf k.lp k.lN k.ck ⟨_, _, TB, hcode, ?_⟩ (words_all o c hb hg))
    show (if (He.cT K lawDef).2 = (He.cT K ("law", none)).2 then some ((("law" : Str) ++ ".<locals>.") ++ "<lambda>") else none) = some ((m.lw.x ++ ".<locals>.") ++ "<lambda>")
    rw [if_pos rfl, hlw]
end Cs
set_option Elab.async false
set_option linter.all false
set_option maxRecDepth 100000
set_option maxHeartbeats 0
namespace Cs
open PySem L2 PyProof.Rows
def top_ (i : Nat) : Stmt := PySem.Challenge.pw_cardsaid_k29_errors_and_their_classes.main.body.getD i (.Pass ⟨0, 0, 0, 0⟩)
def cls_ (s : Stmt) (i : Nat) : Stmt := match s with
  | .ClassDef _ _ _ b _ _ _ _ _ _ _ => b.getD i (.Pass ⟨0, 0, 0, 0⟩)
  | _ => s
def lb__law_nest : Ss := (.cons (.asg (.v 2) (.ite (.cmp .ge (.var 0) (.op .pow (.con (.int 10)) (.con (.int 18)))) (.op .add (.op .fdiv (.var 0) (.con (.int 4))) (.op .mul (.con (.int 7)) (.var 1))) (.con (.int 0)))) (.cons (.ret (.lst true (.cons (.var 2) (.cons (.op .add (.op .mod (.blt .int (.cons (.op .add (.op .mul (.var 0) (.con (.int 31))) (.op .mul (.con (.int 5003)) (.var 1))) .nil)) (.con (.int 1946157043))) (.con (.int 11))) .nil)))) .nil))
def ld__law_nest : FnD := ⟨2, 1, true, lb__law_nest⟩
def lt__law_nest : DefT := ⟨"_law_nest", top_ 16, ["_law_cell", "_law_salt", "_law_great"], ["_law_cell", "_law_salt"], ld__law_nest⟩
def lb__law_egg : Ss := (.cons (.ite (.cmp .gt (.sub (.var 0) (.con (.int 0))) (.con (.int 0))) (.cons (.asg (.v 3) (.op .mod (.blt .int (.cons (.sub (.var 0) (.con (.int 0))) .nil)) (.var 1))) (.cons (.put (.var 0) (.con (.int 0)) (.op .fdiv (.sub (.var 0) (.con (.int 0))) (.var 1))) (.cons (.ret (.var 3)) .nil))) .nil) (.cons (.put (.var 0) (.con (.int 1)) (.op .mod (.blt .int (.cons (.op .add (.op .mul (.sub (.var 0) (.con (.int 1))) (.con (.int 39373))) (.con (.int 6151))) .nil)) (.con (.int 2147483579)))) (.cons (.asg (.v 2) (.op .mod (.blt .int (.cons (.op .mul (.sub (.var 0) (.con (.int 1))) (.op .add (.sub (.var 0) (.con (.int 1))) (.con (.int 37)))) .nil)) (.con (.int 2147483563)))) (.cons (.ret (.op .mod (.blt .int (.cons (.op .fdiv (.var 2) (.con (.int 541))) .nil)) (.var 1))) .nil))))
def ld__law_egg : FnD := ⟨2, 2, false, lb__law_egg⟩
def lt__law_egg : DefT := ⟨"_law_egg", top_ 17, ["_law_nest_here", "_law_many", "_law_deep", "_law_found"], ["_law_nest_here", "_law_many"], ld__law_egg⟩
def lb__law_pick : Ss := (.cons (.ret (.sub (.var 1) (.call "_law_egg" (.cons (.var 0) (.cons (.blt .len (.cons (.var 1) .nil)) .nil))))) .nil)
def ld__law_pick : FnD := ⟨2, 0, false, lb__law_pick⟩
def lt__law_pick : DefT := ⟨"_law_pick", top_ 18, ["_law_nest_here", "_law_things"], ["_law_nest_here", "_law_things"], ld__law_pick⟩
def lb__law_which : Ss := (.cons (.asg (.v 1) (.lst false (.cons (.ext (.isc "InvalidRule" ["InvalidRule"] ["ParcelError", "InvalidDiary", "InvalidDeed", "InvalidRow", "InvalidPart", "InvalidDay", "InvalidIndex", "InvalidBook", "Unlike", "NothingToUndo", "TooMany", "WrongLine", "Failed"]) (.cons (.var 0) .nil)) (.cons (.ext (.isc "InvalidDiary" ["InvalidDiary"] ["ParcelError", "InvalidRule", "InvalidDeed", "InvalidRow", "InvalidPart", "InvalidDay", "InvalidIndex", "InvalidBook", "Unlike", "NothingToUndo", "TooMany", "WrongLine", "Failed"]) (.cons (.var 0) .nil)) (.cons (.ext (.isc "InvalidDeed" ["InvalidDeed"] ["ParcelError", "InvalidRule", "InvalidDiary", "InvalidRow", "InvalidPart", "InvalidDay", "InvalidIndex", "InvalidBook", "Unlike", "NothingToUndo", "TooMany", "WrongLine", "Failed"]) (.cons (.var 0) .nil)) .nil))))) (.cons (.asg (.v 1) (.op .add (.var 1) (.lst false (.cons (.ext (.isc "InvalidRow" ["InvalidRow"] ["ParcelError", "InvalidRule", "InvalidDiary", "InvalidDeed", "InvalidPart", "InvalidDay", "InvalidIndex", "InvalidBook", "Unlike", "NothingToUndo", "TooMany", "WrongLine", "Failed"]) (.cons (.var 0) .nil)) (.cons (.ext (.isc "InvalidPart" ["InvalidPart"] ["ParcelError", "InvalidRule", "InvalidDiary", "InvalidDeed", "InvalidRow", "InvalidDay", "InvalidIndex", "InvalidBook", "Unlike", "NothingToUndo", "TooMany", "WrongLine", "Failed"]) (.cons (.var 0) .nil)) (.cons (.ext (.isc "InvalidDay" ["InvalidDay"] ["ParcelError", "InvalidRule", "InvalidDiary", "InvalidDeed", "InvalidRow", "InvalidPart", "InvalidIndex", "InvalidBook", "Unlike", "NothingToUndo", "TooMany", "WrongLine", "Failed"]) (.cons (.var 0) .nil)) .nil)))))) (.cons (.asg (.v 1) (.op .add (.var 1) (.lst false (.cons (.ext (.isc "InvalidIndex" ["InvalidIndex"] ["ParcelError", "InvalidRule", "InvalidDiary", "InvalidDeed", "InvalidRow", "InvalidPart", "InvalidDay", "InvalidBook", "Unlike", "NothingToUndo", "TooMany", "WrongLine", "Failed"]) (.cons (.var 0) .nil)) (.cons (.ext (.isc "InvalidBook" ["InvalidBook"] ["ParcelError", "InvalidRule", "InvalidDiary", "InvalidDeed", "InvalidRow", "InvalidPart", "InvalidDay", "InvalidIndex", "Unlike", "NothingToUndo", "TooMany", "WrongLine", "Failed"]) (.cons (.var 0) .nil)) (.cons (.ext (.isc "Unlike" ["Unlike"] ["ParcelError", "InvalidRule", "InvalidDiary", "InvalidDeed", "InvalidRow", "InvalidPart", "InvalidDay", "InvalidIndex", "InvalidBook", "NothingToUndo", "TooMany", "WrongLine", "Failed"]) (.cons (.var 0) .nil)) .nil)))))) (.cons (.asg (.v 1) (.op .add (.var 1) (.lst false (.cons (.ext (.isc "NothingToUndo" ["NothingToUndo"] ["ParcelError", "InvalidRule", "InvalidDiary", "InvalidDeed", "InvalidRow", "InvalidPart", "InvalidDay", "InvalidIndex", "InvalidBook", "Unlike", "TooMany", "WrongLine", "Failed"]) (.cons (.var 0) .nil)) (.cons (.ext (.isc "TooMany" ["TooMany"] ["ParcelError", "InvalidRule", "InvalidDiary", "InvalidDeed", "InvalidRow", "InvalidPart", "InvalidDay", "InvalidIndex", "InvalidBook", "Unlike", "NothingToUndo", "WrongLine", "Failed"]) (.cons (.var 0) .nil)) (.cons (.ext (.isc "WrongLine" ["WrongLine"] ["ParcelError", "InvalidRule", "InvalidDiary", "InvalidDeed", "InvalidRow", "InvalidPart", "InvalidDay", "InvalidIndex", "InvalidBook", "Unlike", "NothingToUndo", "TooMany", "Failed"]) (.cons (.var 0) .nil)) .nil)))))) (.cons (.ret (.op .add (.var 1) (.lst false (.cons (.ext (.isc "Failed" ["Failed"] ["ParcelError", "InvalidRule", "InvalidDiary", "InvalidDeed", "InvalidRow", "InvalidPart", "InvalidDay", "InvalidIndex", "InvalidBook", "Unlike", "NothingToUndo", "TooMany", "WrongLine"]) (.cons (.var 0) .nil)) .nil)))) .nil)))))
def ld__law_which : FnD := ⟨1, 1, false, lb__law_which⟩
def lt__law_which : DefT := ⟨"_law_which", top_ 19, ["_law_error", "_law_found"], ["_law_error"], ld__law_which⟩
def lb_law : Ss := (.cons (.for_ (.v 1) (.of (.slc (.op .add (.lst false (.cons (.con (.int 0)) .nil)) (.var 0)) .no (.yes (.con (.int 6))))) (.cons (.asg (.v 2) (.call "_law_nest" (.cons (.var 1) (.cons (.con (.int 171)) .nil)))) (.cons (.asgs (.cons (.v 5) (.cons (.v 6) .nil)) (.cons (.call "_law_pick" (.cons (.var 2) (.cons (.lst false (.cons (.con (.str "")) (.cons (.con (.str "a parcel")) (.cons (.con (.str "nobody at the door")) .nil)))) .nil))) (.cons (.call "_law_egg" (.cons (.var 2) (.cons (.con (.int 400)) .nil))) .nil))) (.cons (.asg (.v 3) (.lst true (.cons (.ext (.mkx "InvalidRule") (.cons (.var 5) .nil)) (.cons (.ext (.mkx "InvalidDiary") (.cons (.var 5) .nil)) (.cons (.ext (.mkx "InvalidDeed") (.cons (.var 5) .nil)) (.cons (.ext (.mkx "InvalidRow") (.cons (.var 5) .nil)) (.cons (.ext (.mkx "InvalidPart") (.cons (.var 5) .nil)) .nil))))))) (.cons (.asg (.v 3) (.cat (.var 3) (.lst true (.cons (.ext (.mkx "InvalidDay") (.cons (.var 5) .nil)) (.cons (.ext (.mkx "InvalidIndex") (.cons (.var 5) .nil)) (.cons (.ext (.mkx "InvalidBook") (.cons (.var 5) .nil)) (.cons (.ext (.mkx "Unlike") (.cons (.var 5) .nil)) .nil))))))) (.cons (.asg (.v 3) (.cat (.var 3) (.lst true (.cons (.ext (.mkx "NothingToUndo") (.cons (.var 5) .nil)) (.cons (.ext (.mkf "TooMany" "limit") (.cons (.var 6) .nil)) (.cons (.ext (.mkf "WrongLine" "line") (.cons (.var 6) .nil)) (.cons (.ext (.mkf "Failed" "place") (.cons (.var 6) .nil)) .nil))))))) (.cons (.for_ (.v 4) (.rng (.cons (.con (.int 13)) .nil)) (.cons (.ite (.cmp .ne (.call "_law_which" (.cons (.sub (.var 3) (.var 4)) .nil)) (.comp false [7] (.cmp .eq (.var 7) (.var 4)) (.v 7) (.rng (.cons (.con (.int 13)) .nil)) .no)) (.cons (.ret (.con (.bool false))) .nil) .nil) (.cons (.ite (.or_ (.not_ (.ext (.isc "ParcelError" ["ParcelError", "InvalidRule", "InvalidDiary", "InvalidDeed", "InvalidRow", "InvalidPart", "InvalidDay", "InvalidIndex", "InvalidBook", "Unlike", "NothingToUndo", "TooMany", "WrongLine", "Failed"] []) (.cons (.sub (.var 3) (.var 4)) .nil))) (.not_ (.ext (.isc "ValueError" ["ParcelError", "InvalidRule", "InvalidDiary", "InvalidDeed", "InvalidRow", "InvalidPart", "InvalidDay", "InvalidIndex", "InvalidBook", "Unlike", "NothingToUndo", "TooMany", "WrongLine", "Failed"] []) (.cons (.sub (.var 3) (.var 4)) .nil)))) (.cons (.ret (.con (.bool false))) .nil) .nil) (.cons (.ite (.and_ (.cmp .lt (.var 4) (.con (.int 10))) (.cmp .ne (.ext (.strx ["ParcelError", "InvalidRule", "InvalidDiary", "InvalidDeed", "InvalidRow", "InvalidPart", "InvalidDay", "InvalidIndex", "InvalidBook", "Unlike", "NothingToUndo"]) (.cons (.sub (.var 3) (.var 4)) .nil)) (.var 5))) (.cons (.ret (.con (.bool false))) .nil) .nil) .nil)))) (.cons (.ite (.cmp .ne (.lst false (.cons (.ext (.att "TooMany" "limit" true) (.cons (.sub (.var 3) (.con (.int 10))) .nil)) (.cons (.ext (.att "WrongLine" "line" true) (.cons (.sub (.var 3) (.con (.int 11))) .nil)) (.cons (.ext (.att "Failed" "place" true) (.cons (.sub (.var 3) (.con (.int 12))) .nil)) .nil)))) (.op .mul (.lst false (.cons (.var 6) .nil)) (.con (.int 3)))) (.cons (.ret (.con (.bool false))) .nil) .nil) (.cons (.ite (.cmp .ne (.call "_law_which" (.cons (.ext (.mkx "ParcelError") (.cons (.var 5) .nil)) .nil)) (.op .mul (.lst false (.cons (.con (.bool false)) .nil)) (.con (.int 13)))) (.cons (.ret (.con (.bool false))) .nil) .nil) .nil))))))))) (.cons (.ret (.con (.bool true))) .nil))
def ld_law : FnD := ⟨1, 7, false, lb_law⟩
def lt_law : DefT := ⟨"law", top_ 20, ["_law_script", "_law_cell", "_law_nest_here", "_law_errors", "_law_at", "_law_text", "_law_number", "_law_place"], ["_law_script"], ld_law⟩
def mT : List DefT := [lt__law_nest, lt__law_egg, lt__law_pick, lt__law_which]
def mW : List WordT := []
def mCls : List (Str × List Str) := [("ParcelError", ["ParcelError"]), ("InvalidRule", ["InvalidRule", "ParcelError"]), ("InvalidDiary", ["InvalidDiary", "ParcelError"]), ("InvalidDeed", ["InvalidDeed", "ParcelError"]), ("InvalidRow", ["InvalidRow", "ParcelError"]), ("InvalidPart", ["InvalidPart", "ParcelError"]), ("InvalidDay", ["InvalidDay", "ParcelError"]), ("InvalidIndex", ["InvalidIndex", "ParcelError"]), ("InvalidBook", ["InvalidBook", "ParcelError"]), ("Unlike", ["Unlike", "ParcelError"]), ("NothingToUndo", ["NothingToUndo", "ParcelError"]), ("TooMany", ["TooMany", "ParcelError"]), ("WrongLine", ["WrongLine", "ParcelError"]), ("Failed", ["Failed", "ParcelError"])]
def mG : List (Str × PyData) := []
def mD : List (Str × List (PyData × PyData)) := []
def le_TooMany : EfT := ⟨"TooMany", "limit", "ParcelError", "self", "limit", cls_ (top_ 12) 0⟩
def le_WrongLine : EfT := ⟨"WrongLine", "line", "ParcelError", "self", "line", cls_ (top_ 13) 0⟩
def le_Failed : EfT := ⟨"Failed", "place", "ParcelError", "self", "place", cls_ (top_ 14) 0⟩
def mIa : List (Str × (List Str × List Str)) := [("ParcelError", (["ParcelError", "InvalidRule", "InvalidDiary", "InvalidDeed", "InvalidRow", "InvalidPart", "InvalidDay", "InvalidIndex", "InvalidBook", "Unlike", "NothingToUndo", "TooMany", "WrongLine", "Failed"], [])), ("InvalidRule", (["InvalidRule"], ["ParcelError", "InvalidDiary", "InvalidDeed", "InvalidRow", "InvalidPart", "InvalidDay", "InvalidIndex", "InvalidBook", "Unlike", "NothingToUndo", "TooMany", "WrongLine", "Failed"])), ("InvalidDiary", (["InvalidDiary"], ["ParcelError", "InvalidRule", "InvalidDeed", "InvalidRow", "InvalidPart", "InvalidDay", "InvalidIndex", "InvalidBook", "Unlike", "NothingToUndo", "TooMany", "WrongLine", "Failed"])), ("InvalidDeed", (["InvalidDeed"], ["ParcelError", "InvalidRule", "InvalidDiary", "InvalidRow", "InvalidPart", "InvalidDay", "InvalidIndex", "InvalidBook", "Unlike", "NothingToUndo", "TooMany", "WrongLine", "Failed"])), ("InvalidRow", (["InvalidRow"], ["ParcelError", "InvalidRule", "InvalidDiary", "InvalidDeed", "InvalidPart", "InvalidDay", "InvalidIndex", "InvalidBook", "Unlike", "NothingToUndo", "TooMany", "WrongLine", "Failed"])), ("InvalidPart", (["InvalidPart"], ["ParcelError", "InvalidRule", "InvalidDiary", "InvalidDeed", "InvalidRow", "InvalidDay", "InvalidIndex", "InvalidBook", "Unlike", "NothingToUndo", "TooMany", "WrongLine", "Failed"])), ("InvalidDay", (["InvalidDay"], ["ParcelError", "InvalidRule", "InvalidDiary", "InvalidDeed", "InvalidRow", "InvalidPart", "InvalidIndex", "InvalidBook", "Unlike", "NothingToUndo", "TooMany", "WrongLine", "Failed"])), ("InvalidIndex", (["InvalidIndex"], ["ParcelError", "InvalidRule", "InvalidDiary", "InvalidDeed", "InvalidRow", "InvalidPart", "InvalidDay", "InvalidBook", "Unlike", "NothingToUndo", "TooMany", "WrongLine", "Failed"])), ("InvalidBook", (["InvalidBook"], ["ParcelError", "InvalidRule", "InvalidDiary", "InvalidDeed", "InvalidRow", "InvalidPart", "InvalidDay", "InvalidIndex", "Unlike", "NothingToUndo", "TooMany", "WrongLine", "Failed"])), ("Unlike", (["Unlike"], ["ParcelError", "InvalidRule", "InvalidDiary", "InvalidDeed", "InvalidRow", "InvalidPart", "InvalidDay", "InvalidIndex", "InvalidBook", "NothingToUndo", "TooMany", "WrongLine", "Failed"])), ("NothingToUndo", (["NothingToUndo"], ["ParcelError", "InvalidRule", "InvalidDiary", "InvalidDeed", "InvalidRow", "InvalidPart", "InvalidDay", "InvalidIndex", "InvalidBook", "Unlike", "TooMany", "WrongLine", "Failed"])), ("TooMany", (["TooMany"], ["ParcelError", "InvalidRule", "InvalidDiary", "InvalidDeed", "InvalidRow", "InvalidPart", "InvalidDay", "InvalidIndex", "InvalidBook", "Unlike", "NothingToUndo", "WrongLine", "Failed"])), ("WrongLine", (["WrongLine"], ["ParcelError", "InvalidRule", "InvalidDiary", "InvalidDeed", "InvalidRow", "InvalidPart", "InvalidDay", "InvalidIndex", "InvalidBook", "Unlike", "NothingToUndo", "TooMany", "Failed"])), ("Failed", (["Failed"], ["ParcelError", "InvalidRule", "InvalidDiary", "InvalidDeed", "InvalidRow", "InvalidPart", "InvalidDay", "InvalidIndex", "InvalidBook", "Unlike", "NothingToUndo", "TooMany", "WrongLine"])), ("ValueError", (["ParcelError", "InvalidRule", "InvalidDiary", "InvalidDeed", "InvalidRow", "InvalidPart", "InvalidDay", "InvalidIndex", "InvalidBook", "Unlike", "NothingToUndo", "TooMany", "WrongLine", "Failed"], []))]
def mFa : List (Str × (Str × Bool)) := [("TooMany", ("limit", true)), ("WrongLine", ("line", true)), ("Failed", ("place", true))]
def md : Mdl := { ts := mT, sup := mCls, gt := mG, gd := mD, lw := lt_law, ws := mW, ef := [le_TooMany, le_WrongLine, le_Failed], xk := ["ParcelError", "InvalidRule", "InvalidDiary", "InvalidDeed", "InvalidRow", "InvalidPart", "InvalidDay", "InvalidIndex", "InvalidBook", "Unlike", "NothingToUndo", "TooMany", "WrongLine", "Failed"], xe := ["ParcelError", "InvalidRule", "InvalidDiary", "InvalidDeed", "InvalidRow", "InvalidPart", "InvalidDay", "InvalidIndex", "InvalidBook", "Unlike", "NothingToUndo"], ia := mIa, fa := mFa }
theorem ok__law_nest : OkT md lt__law_nest := ⟨⟨rfl, rfl, rfl, by decide +kernel, rfl, by decide +kernel, by decide +kernel⟩, fun _ _ _ _ _ _ us hl => match us, hl with | [_, _], _ => rfl, rfl, rfl, by kernel_rfl⟩
theorem ok__law_egg : OkT md lt__law_egg := ⟨⟨rfl, rfl, rfl, by decide +kernel, rfl, by decide +kernel, by decide +kernel⟩, fun _ _ _ _ _ _ us hl => match us, hl with | [_, _], _ => rfl, rfl, rfl, by kernel_rfl⟩
theorem ok__law_pick : OkT md lt__law_pick := ⟨⟨rfl, rfl, rfl, by decide +kernel, rfl, by decide +kernel, by decide +kernel⟩, fun _ _ _ _ _ _ us hl => match us, hl with | [_, _], _ => rfl, rfl, rfl, by kernel_rfl⟩
theorem ok__law_which : OkT md lt__law_which := ⟨⟨rfl, rfl, rfl, by decide +kernel, rfl, by decide +kernel, by decide +kernel⟩, fun _ _ _ _ _ _ us hl => match us, hl with | [_], _ => rfl, rfl, rfl, by kernel_rfl⟩
theorem ok_law : OkL md lt_law := ⟨⟨rfl, rfl, rfl, by decide +kernel, rfl, by decide +kernel, by decide +kernel⟩, fun _ _ _ _ _ _ us hl => match us, hl with | [_], _ => rfl, rfl, rfl, by kernel_rfl⟩
theorem okT : ∀ t ∈ mT, OkT md t := by
  intro t ht
  simp only [mT, List.mem_append, List.mem_cons, List.not_mem_nil, or_false] at ht
  first
  | rcases ht with rfl | rfl | rfl | rfl
    · exact ok__law_nest
    · exact ok__law_egg
    · exact ok__law_pick
    · exact ok__law_which
theorem okHelp : ∀ t ∈ mW, OkW md t := by
  intro t ht
  simp only [mW, List.mem_cons, List.not_mem_nil, or_false] at ht
theorem oke_TooMany : OkE md le_TooMany := ⟨⟨rfl, rfl, rfl, by decide +kernel, rfl, by decide +kernel, by decide +kernel⟩, fun _ _ _ _ _ _ us hl => match us, hl with | [_, _], _ => rfl, ⟨_, _, _, _, _, _, _, _, _, _, _, _, rfl, fun env => ⟨_, rfl⟩⟩, by decide +kernel⟩
theorem oke_WrongLine : OkE md le_WrongLine := ⟨⟨rfl, rfl, rfl, by decide +kernel, rfl, by decide +kernel, by decide +kernel⟩, fun _ _ _ _ _ _ us hl => match us, hl with | [_, _], _ => rfl, ⟨_, _, _, _, _, _, _, _, _, _, _, _, rfl, fun env => ⟨_, rfl⟩⟩, by decide +kernel⟩
theorem oke_Failed : OkE md le_Failed := ⟨⟨rfl, rfl, rfl, by decide +kernel, rfl, by decide +kernel, by decide +kernel⟩, fun _ _ _ _ _ _ us hl => match us, hl with | [_, _], _ => rfl, ⟨_, _, _, _, _, _, _, _, _, _, _, _, rfl, fun env => ⟨_, rfl⟩⟩, by decide +kernel⟩
theorem okEf : ∀ t ∈ md.ef, OkE md t := by
  intro t ht
  have ht : t ∈ [le_TooMany, le_WrongLine, le_Failed] := ht
  simp only [List.mem_cons, List.not_mem_nil, or_false] at ht
  rcases ht with rfl | rfl | rfl
  · exact oke_TooMany
  · exact oke_WrongLine
  · exact oke_Failed
theorem okM : OkM md := ⟨by decide +kernel, by decide +kernel, by decide +kernel, ok_law, okT, okHelp, okEf, by decide +kernel, by decide +kernel⟩
def nms : List Str := ["ParcelError", "InvalidRule", "InvalidDiary", "InvalidDeed", "InvalidRow", "InvalidPart", "InvalidDay", "InvalidIndex", "InvalidBook", "Unlike", "NothingToUndo", "TooMany", "WrongLine", "Failed", "_law_nest", "_law_egg", "_law_pick", "_law_which"]
abbrev rR : PySem.W.OpenRow := PySem.W.OpenLaw.row PySem.Challenge.rw_cardsaid_k29_errors_and_their_classes
abbrev rH : PySem.W.Hook := md.tell.hook 4
def rO (s : PySem.W.SharedT) : AlL := md.tell.obsG 4 (HandSHeadRun.getT s)
theorem run1f (w : World) : HandSHeadRun.RunEq rR (PySem.W.view rR.prog [20]) rH rO 8000 nms (w.withFollow "special-get-raises" false) := fun os => by kernel_rfl
theorem run1t (w : World) : HandSHeadRun.RunEq rR (PySem.W.view rR.prog [20]) rH rO 8000 nms (w.withFollow "special-get-raises" true) := fun os => by kernel_rfl
theorem run1 (w : World) : HandSHeadRun.RunEq rR (PySem.W.view rR.prog [20]) rH rO 8000 nms w :=
  PySem.W.byRow2 "special-get-raises" (P := fun w => HandSHeadRun.RunEq rR (PySem.W.view rR.prog [20]) rH rO 8000 nms w) run1f run1t w
end Cs
set_option maxRecDepth 100000
set_option maxHeartbeats 0
namespace Cs
open PySem PySem.W PySem.Calls PyProof.Rows
theorem law_end (res : ∀ ns : List Int, ns.length ≤ 63 → ∃ M, calln md.info 20 "law" [.d (.list (ns.map .int))] [] = .ok (.d (.bool true)) M) : PySem.Challenge.rw_cardsaid_k29_errors_and_their_classes.Holds := by
  w_on; o_law
  refine HandSHeadRun.head_any (r := OpenLaw.row PySem.Challenge.rw_cardsaid_k29_errors_and_their_classes) (q := view (OpenLaw.row PySem.Challenge.rw_cardsaid_k29_errors_and_their_classes).prog [20]) (H := rH) (ob := rO) (M := 8000) (loose := nms) (d := HandSHeadRun.topDef (OpenLaw.row PySem.Challenge.rw_cardsaid_k29_errors_and_their_classes).prog 20) (kwd := []) (Tell.obs_eq md.tell 4)
    (by kernel_rfl) (fun s => by kernel_rfl) run1 (by kernel_rfl) (by kernel_rfl) (by kernel_rfl) (by rfl) (by first | assumption | decide +kernel) (by decide +kernel) ⟨rfl, rfl, rfl, rfl, rfl, by decide +kernel⟩ ?hw ?hc
  case hw => w_witness2
  case hc => exact law_walk (l := PySem.Challenge.rw_cardsaid_k29_errors_and_their_classes) (m := md) (nn := 63) (x := "_law_script") okM rfl rfl (by kernel_rfl) rfl (by decide) (by kernel_rfl) ⟨rfl, by decide, by decide⟩ res
end Cs
set_option Elab.async false
set_option linter.all false
set_option autoImplicit false
set_option maxRecDepth 100000
set_option maxHeartbeats 1000000
/-! What a computation of the interpreter gives: a calculus. -/
namespace Cs
open PySem
/-- x, from M, gives what q says, or raises what r says -/
def WP {α : Type} (x : K α) (M : Mem) (q : α → Mem → Prop) (r : Exc → Mem → Prop) : Prop := match x M with
  | .ok a m => q a m
  | .exc e m => r e m
  | .no => False
section
variable {α β : Type} {M : Mem} {q : α → Mem → Prop} {r : Exc → Mem → Prop}
theorem wp_bnd {x : K β} {f : β → K α} : WP (x.bnd f) M q r ↔ WP x M (fun a m => WP (f a) m q r) r := by
  unfold WP K.bnd
  cases x M <;> rfl
theorem wp_pur {a : α} : WP (K.pur a) M q r ↔ q a M := Iff.rfl
theorem wp_stop : WP (K.stop : K α) M q r ↔ False := Iff.rfl
theorem wp_rai {e : Exc} : WP (K.rai e : K α) M q r ↔ r e M := Iff.rfl
theorem wp_some {a : α} : WP (K.opt (some a)) M q r ↔ q a M := Iff.rfl
theorem wp_none : WP (K.opt (none : Option α)) M q r ↔ False := Iff.rfl
theorem wp_opt {a : Option α} : WP (K.opt a) M q r ↔ ∃ x, a = some x ∧ q x M := by
  cases a with
  | none => exact ⟨False.elim, fun ⟨_, h, _⟩ => nomatch h⟩
  | some x => exact ⟨fun h => ⟨x, rfl, h⟩, fun ⟨y, h, hq⟩ => by cases h; exact hq⟩
theorem wp_ite {c : Prop} [Decidable c] {x y : K α} : WP (if c then x else y) M q r ↔ (if c then WP x M q r else WP y M q r) := by
  split <;> rfl
theorem wp_mono {x : K α} {q' : α → Mem → Prop} {r' : Exc → Mem → Prop} (h : WP x M q r) (h1 : ∀ a m, q a m → q' a m) (h2 : ∀ e m, r e m → r' e m) : WP x M q' r' := by
  unfold WP at h ⊢
  cases hx : x M with
  | ok a m => rw [hx] at h; exact h1 a m h
  | exc e m => rw [hx] at h; exact h2 e m h
  | no => rw [hx] at h; exact h
theorem wp_eq {x : K α} {a : α} {m : Mem} (e : x M = .ok a m) : WP x M q r ↔ q a m := by
  unfold WP; rw [e]
theorem wp_exc {x : K α} {a : Exc} {m : Mem} (e : x M = .exc a m) : WP x M q r ↔ r a m := by
  unfold WP; rw [e]
theorem wp_look {n : Nat} {c : Cell} {q : Cell → Mem → Prop} (h : M[n]? = some c) : WP (look n) M q r ↔ q c M := by
  unfold WP look; rw [h]
theorem wp_put {n : Nat} {c : Cell} {q : Unit → Mem → Prop} : WP (put n c) M q r ↔ q () (M.set n c) := Iff.rfl
theorem wp_alloc {c : Cell} {q : W → Mem → Prop} : WP (alloc c) M q r ↔ q (.c M.length) (M ++ [c]) := Iff.rfl
theorem wp_rd {x : PyData} {q : PyData → Mem → Prop} : WP (rd (.d x)) M q r ↔ q x M := Iff.rfl
theorem wp_rds_nil {q : List PyData → Mem → Prop} : WP (rds []) M q r ↔ q [] M := Iff.rfl
theorem wp_rds {w : W} {ws : List W} {q : List PyData → Mem → Prop} : WP (rds (w :: ws)) M q r ↔ WP (rd w) M (fun x m => WP (rds ws) m (fun xs m => q (x :: xs) m) r) r := by
  show WP ((rd w).bnd fun x => (rds ws).bnd fun xs => K.pur (x :: xs)) M q r ↔ _
  simp only [wp_bnd, wp_pur]
theorem wp_quiet {x : K α} : WP (quiet x) M q r ↔ WP x M q (fun _ _ => False) := by
  unfold WP quiet
  cases x M <;> rfl
theorem wp_bool {b : Bool} {q : Bool → Mem → Prop} : WP (bool (.d (.bool b))) M q r ↔ q b M := Iff.rfl
end
/-- what is left when a def is left -/
def LV (b : Nat) (keep : Bool) (w : W) (m : Mem) (q : W → Mem → Prop) : Prop := match w with
  | .d x => q (.d x) (m.take b)
  | .c n => if n < b then q (.c n) (m.take b) else if keep then q (.c n) m else match frz b 4 m (.c n) with
    | some x => q (.d x) (m.take b)
    | none => False
theorem lv_d {b : Nat} {keep : Bool} {x : PyData} {m : Mem} {q : W → Mem → Prop} : LV b keep (.d x) m q ↔ q (.d x) (m.take b) := Iff.rfl
theorem wp_call {J : Info} {k : Nat} {f : Str} {d : FnD} {ws : List W} {M : Mem} {q : W → Mem → Prop} {r : Exc → Mem → Prop} (h : J.fns f = some d) (hl : ws.length = d.np) :
    WP (calln J (k + 1) f ws) M q r ↔ WP (exs ⟨⟨M.length, J.glob, calln J k⟩, J.att, J.sub⟩ d.body (ws.map some ++ List.replicate d.ns none)) M (fun p m => LV M.length d.keep p.1.val m q) (fun e m => r e (m.take M.length)) := by
  unfold WP
  rw [calln]
  simp only [h, hl, if_true]
  generalize exs _ d.body _ M = z
  cases z with
  | no => rfl
  | exc e m => rfl
  | ok p m =>
    unfold leave LV
    dsimp only
    cases p.1.val with
    | d x => rfl
    | c n =>
      dsimp only
      by_cases h1 : n < M.length
      · simp only [h1, if_true]
      · simp only [h1, if_false]
        cases d.keep
        · simp only [Bool.false_eq_true, if_false]
          cases frz M.length 4 m (.c n) <;> rfl
        · simp only [if_true]
/-! ### loops -/
theorem wp_foldI {S : Type} {body : W → S → K (Bool × S)} {q : Bool × S → Mem → Prop} {r : Exc → Mem → Prop} (Inv : List W → S → Mem → Prop) (step : ∀ w rest s M, Inv (w :: rest) s M → WP (body w s) M (fun p m => if p.1 = true then Inv rest p.2 m else q p m) r)
    (fin : ∀ s M, Inv [] s M → q (true, s) M) : ∀ (ws : List W) (s : S) (M : Mem), Inv ws s M → WP (foldI body ws s) M q r
  | [], s, M, h => fin s M h
  | w :: ws, s, M, h => by
    rw [foldI, wp_bnd]
    refine wp_mono (step w ws s M h) (fun p m hp => ?_) fun _ _ z => z
    cases hb : p.1 with
    | true =>
      rw [hb] at hp
      simp only [if_true] at hp ⊢
      exact wp_foldI Inv step fin ws p.2 m hp
    | false =>
      rw [hb] at hp
      simp only [Bool.false_eq_true, if_false] at hp ⊢
      exact hp
/-- a comprehension over data, whose turns leave the memory as it is -/
theorem comp_pure {own : List Nat} {p : Pt} {rt : Sl → K Bool} {re : Sl → K W} {σ : Sl} {M : Mem} (T : PyData → Bool) (g : PyData → PyData) : ∀ (xs : List PyData) (acc : List PyData),
    (∀ x ∈ xs, ∃ σ', bindP p (.d x) (wipe σ own) = some σ' ∧ rt σ' M = .ok (T x) M ∧ (T x = true → re σ' M = .ok (.d (g x)) M)) → acc.length + xs.length ≤ top →
    foldI (cBody own p rt re σ) (xs.map W.d) (acc.map W.d) M = .ok (true, (acc ++ (xs.filter T).map g).map W.d) M
  | [], acc, _, _ => by simp [foldI, K.pur]
  | x :: xs, acc, h, hl => by
    obtain ⟨σ', e1, e2, e3⟩ := h x List.mem_cons_self
    have step : cBody own p rt re σ (.d x) (acc.map W.d) M = .ok (true, (if T x then acc ++ [g x] else acc).map W.d) M := by
      unfold cBody
      simp only [e1, K.opt, K.pur, K.bnd, quiet, e2]
      cases ht : T x with
      | false => simp [K.pur]
      | true =>
        have q : quiet (re σ') M = .ok (.d (g x)) M := by unfold quiet; rw [e3 ht]
        simp only [if_true]
        unfold K.bnd
        rw [q]
        have : (acc.map W.d).length < top := by simp at hl ⊢; omega
        simp only [this, if_true]
        simp [K.pur]
    show (K.bnd (cBody own p rt re σ (.d x) (acc.map W.d)) fun p' => if p'.1 then foldI (cBody own p rt re σ) (xs.map W.d) p'.2 else K.pur p') M = _
    unfold K.bnd
    rw [step]
    simp only [if_true]
    cases ht : T x with
    | false =>
      simp only [Bool.false_eq_true, if_false]
      rw [comp_pure T g xs acc (fun y hy => h y (List.mem_cons_of_mem _ hy)) (by simp at hl; omega), List.filter_cons_of_neg (by simp [ht])]
    | true =>
      simp only [if_true]
      rw [comp_pure T g xs (acc ++ [g x]) (fun y hy => h y (List.mem_cons_of_mem _ hy)) (by simp at hl ⊢; omega), List.filter_cons_of_pos ht]
      simp
theorem mapM_d (xs : List PyData) : (xs.map W.d).mapM W.dat = some xs := by
  induction xs with
  | nil => rfl
  | cons x xs ih => simp [List.mapM_cons, ih, W.dat]
theorem lstW_d {xs : List PyData} {M : Mem} (h : xs.length ≤ top) : lstW false (xs.map W.d) M = .ok (.d (.list xs)) M := by
  unfold lstW
  simp only [List.length_map, h, if_true, Bool.false_eq_true, if_false, mapM_d, Option.map_some, K.opt, K.pur]
end Cs
set_option Elab.async false
set_option linter.all false
set_option autoImplicit false
set_option maxRecDepth 100000
set_option maxHeartbeats 1000000
/-! Data: texts, lots, sorting; rules that run the interpreter. -/
namespace Cs
open PySem
/-- a turn of a for loop -/
noncomputable def forB (O : Ora2) (p : Pt) (b : Ss) (w : W) (s : Fl × Sl) : K (Bool × Fl × Sl) := (K.opt (bindP p w s.2)).bnd fun σ' => (exs O b σ').bnd fun r => K.pur (match r.1 with | .nx => true | .rt _ => false, r)
noncomputable def whlB (O : Ora2) (b : Ss) (s : Fl × Sl) : K (Bool × Fl × Sl) := (exs O b s.2).bnd fun r => K.pur (match r.1 with | .nx => true | .rt _ => false, r)
def whlC (O : Ora2) (c : E) (s : Fl × Sl) : K Bool := (ev O.toOra s.2 c).bnd fun x => bool x
noncomputable def tryB (O : Ora2) (b : Ss) (hs : Hs) (σ : Sl) : K (Fl × Sl) := fun m => match exs O b σ m with
  | .exc e m' => exh O hs e (wipe σ (asgdS b)) m'
  | r => r
section
variable {O : Ora2} {σ : Sl}
theorem ex_asg {p : Pt} {e : E} : ex O (.asg p e) σ = (ev O.toOra σ e).bnd fun w => (K.opt (bindP p w σ)).bnd fun σ' => K.pur (.nx, σ') := by rw [ex]
theorem ex_asgs {ps : Pts} {es : Es} : ex O (.asgs ps es) σ = (evs O.toOra σ es).bnd fun ws => (K.opt (bindPs ps ws σ)).bnd fun σ' => K.pur (.nx, σ') := by rw [ex]
theorem ex_asgt {ps : Pts} {es : Es} : ex O (.asgt ps es) σ = (evs O.toOra σ es).bnd fun ws => (K.opt (bindPs ps ws σ)).bnd fun σ' => K.pur (.nx, σ') := by rw [ex]
theorem ex_put {a i e : E} : ex O (.put a i e) σ = (ev O.toOra σ e).bnd fun w => (ev O.toOra σ a).bnd fun x => (ev O.toOra σ i).bnd fun y => (putW O.base x y w).bnd fun _ => K.pur (.nx, σ) := by rw [ex]
theorem ex_ex {e : E} : ex O (.ex e) σ = (ev O.toOra σ e).bnd fun _ => K.pur (.nx, σ) := by rw [ex]
theorem ex_ite {c : E} {a b : Ss} : ex O (.ite c a b) σ = (ev O.toOra σ c).bnd fun x => (bool x).bnd fun t => if t then exs O a σ else exs O b σ := by rw [ex]
theorem ex_for {p : Pt} {it : I} {b : Ss} : ex O (.for_ p it b) σ = (evi O.toOra σ it).bnd fun J => (foldK (forB O p b) J (.nx, σ)).bnd fun r => K.pur r.2 := by rw [ex]; rfl
theorem ex_while {c : E} {b : Ss} : ex O (.while_ c b) σ = (whl (whlC O c) (whlB O b) (.nx, σ)).bnd fun r => K.pur r.2 := by rw [ex]; rfl
theorem ex_ret {e : E} : ex O (.ret e) σ = (ev O.toOra σ e).bnd fun w => K.pur (.rt w, σ) := by rw [ex]
theorem ex_retN : ex O .retN σ = K.pur (.rt (.d .none), σ) := by rw [ex]
theorem ex_pass : ex O .pass σ = K.pur (.nx, σ) := by rw [ex]
theorem ex_rai {cls : Str} {a : E} : ex O (.rai cls a) σ = (ev O.toOra σ a).bnd fun w => (rd w).bnd fun x => (mkExc O cls x).bnd fun e => K.rai e := by rw [ex]
theorem ex_try {b : Ss} {hs : Hs} : ex O (.try_ b hs) σ = tryB O b hs σ := by rw [ex]; rfl
theorem wp_try {b : Ss} {hs : Hs} {M : Mem} {q : Fl × Sl → Mem → Prop} {r : Exc → Mem → Prop} : WP (tryB O b hs σ) M q r ↔ WP (exs O b σ) M q (fun e m => WP (exh O hs e (wipe σ (asgdS b))) m q r) := by
  unfold WP tryB
  cases exs O b σ M <;> rfl
theorem wp_forB {p : Pt} {b : Ss} {w : W} {s : Fl × Sl} {M : Mem} {q : Bool × Fl × Sl → Mem → Prop} {r : Exc → Mem → Prop} : WP (forB O p b w s) M q r ↔ WP (K.opt (bindP p w s.2)) M (fun σ' m => WP (exs O b σ') m (fun x m => q (match x.1 with | .nx => true | .rt _ => false, x) m) r) r := by
  unfold forB
  rw [wp_bnd]
  have : ∀ σ' m, WP ((exs O b σ').bnd fun x => K.pur (match x.1 with | .nx => true | .rt _ => false, x)) m q r ↔ WP (exs O b σ') m (fun x m => q (match x.1 with | .nx => true | .rt _ => false, x) m) r := fun σ' m => wp_bnd
  simp only [this]
end
theorem slot_z {w : W} {σ : Sl} : slot (some w :: σ) 0 = K.pur w := rfl
theorem slot_s {w : Option W} {σ : Sl} {i : Nat} : slot (w :: σ) (i + 1) = slot σ i := rfl
theorem bp_v {i : Nat} {w : W} {σ : Sl} : bindP (.v i) w σ = if i < σ.length then some (σ.set i (some w)) else none := by rw [bindP]
theorem bp_t {ps : Pts} {xs : List PyData} {σ : Sl} : bindP (.tup ps) (.d (.tuple xs)) σ = bindPs ps (xs.map W.d) σ := by rw [bindP]
theorem bps_nil {σ : Sl} : bindPs .nil [] σ = some σ := by rw [bindPs]
theorem bps_cons {p : Pt} {r : Pts} {w : W} {ws : List W} {σ : Sl} : bindPs (.cons p r) (w :: ws) σ = (bindP p w σ).bind fun σ' => bindPs r ws σ' := by rw [bindPs]
theorem it_l {xs : List PyData} : iterOf (.d (.list xs)) = K.pur (.items (xs.map W.d)) := rfl
theorem it_t {xs : List PyData} : iterOf (.d (.tuple xs)) = K.pur (.items (xs.map W.d)) := rfl
theorem K.opt_some {α : Type} {a : α} : K.opt (some a) = K.pur a := rfl
section
variable {α : Type} {M : Mem} {q : α → Mem → Prop} {r : Exc → Mem → Prop}
/-- a pure result -/
theorem wp_to {x : K α} {v : α} (h : WP x M (fun a m => a = v ∧ m = M) fun _ _ => False) : x M = .ok v M := by
  unfold WP at h
  cases hx : x M with
  | ok a m => rw [hx] at h; rw [h.1, h.2]
  | exc e m => rw [hx] at h; exact h.elim
  | no => rw [hx] at h; exact h.elim
theorem wp_toE {x : K α} {v : Exc} (h : WP x M (fun _ _ => False) fun e m => e = v ∧ m = M) : x M = .exc v M := by
  unfold WP at h
  cases hx : x M with
  | ok a m => rw [hx] at h; exact h.elim
  | exc e m => rw [hx] at h; rw [h.1, h.2]
  | no => rw [hx] at h; exact h.elim
/-- a comprehension over data, with a test -/
theorem wp_comp {own : List Nat} {p : Pt} {rt : Sl → K Bool} {re : Sl → K W} {σ : Sl} {xs : List PyData} {q : Bool × List W → Mem → Prop} (T : PyData → Bool) (g : PyData → PyData)
    (h : ∀ x ∈ xs, ∃ σ', bindP p (.d x) (wipe σ own) = some σ' ∧ rt σ' M = .ok (T x) M ∧ (T x = true → re σ' M = .ok (.d (g x)) M)) (hl : xs.length ≤ top) :
    WP (foldK (cBody own p rt re σ) (.items (xs.map W.d)) []) M q r ↔ q (true, ((xs.filter T).map g).map W.d) M :=
  wp_eq (x := foldK (cBody own p rt re σ) (.items (xs.map W.d)) []) (comp_pure (own := own) (p := p) (rt := rt) (re := re) (σ := σ) (M := M) T g xs [] h (by simpa using hl))
theorem filter_tt {α : Type} (l : List α) : l.filter (fun _ => true) = l := by
  induction l with
  | nil => rfl
  | cons a l ih => rw [List.filter_cons_of_pos rfl, ih]
/-- a comprehension over data, without a test -/
theorem wp_compA {own : List Nat} {p : Pt} {re : Sl → K W} {σ : Sl} {xs : List PyData} {q : Bool × List W → Mem → Prop} (g : PyData → PyData)
    (h : ∀ x ∈ xs, ∃ σ', bindP p (.d x) (wipe σ own) = some σ' ∧ re σ' M = .ok (.d (g x)) M) (hl : xs.length ≤ top) :
    WP (foldK (cBody own p (fun _ => K.pur true) re σ) (.items (xs.map W.d)) []) M q r ↔ q (true, (xs.map g).map W.d) M := by
  have e := wp_comp (own := own) (p := p) (rt := fun _ => K.pur true) (re := re) (σ := σ) (xs := xs) (M := M) (q := q) (r := r) (fun _ => true) g (fun x hx => by obtain ⟨σ', h1, h2⟩ := h x hx; exact ⟨σ', h1, rfl, fun _ => h2⟩) hl
  rw [filter_tt] at e
  exact e
theorem wp_lst {xs : List PyData} {q : W → Mem → Prop} (h : xs.length ≤ top) : WP (lstW false (xs.map W.d)) M q r ↔ q (.d (.list xs)) M := wp_eq (lstW_d h)
theorem wp_tup {xs : List PyData} {q : W → Mem → Prop} (h : xs.length ≤ top) : WP (tupW (xs.map W.d)) M q r ↔ q (.d (.tuple xs)) M := by
  unfold tupW
  simp only [List.length_map, h, if_true, mapM_d, Option.map_some, wp_some]
end
/-! ### data -/
theorem eqv_str (x y : Str) : PyData.eqv (.str x) (.str y) = (x == y) := rfl
/-- x is a text, one of these -/
def amD (x : PyData) (ss : List PyData) : Bool := isTy .str x && ss.any fun z => PyData.eqv z x
/-- whether x, a tuple of texts, stands in the order of S, each once -/
def lotD (x : PyData) (ss : List PyData) : Bool := match x with
  | .tuple ds => (ds.all fun d => amD d ss) && PyData.eqv (.list ds) (.list (ss.filter fun z => ds.any fun y => PyData.eqv y z))
  | _ => false
def numD (x : PyData) (lo hi : Int) : Bool := match x with
  | .int i => decide (lo ≤ i) && decide (i ≤ hi)
  | _ => false
theorem amD_str {x : PyData} {ss : List PyData} (h : amD x ss = true) : ∃ s, x = .str s := by
  unfold amD at h
  rw [Bool.and_eq_true] at h
  cases x <;> simp [isTy] at h
  exact ⟨_, rfl⟩
theorem fine_list {n : Nat} {ds : List PyData} (h : ∀ d ∈ ds, fine n d = true) : fine (n + 1) (.list ds) = true := by
  rw [fine, List.all_eq_true]; exact h
theorem fine_tup {n : Nat} {ds : List PyData} : fine (n + 1) (.tuple ds) = true ↔ ∀ d ∈ ds, fine n d = true := by
  rw [fine, List.all_eq_true]
theorem fine_up : ∀ (n : Nat) (x : PyData), fine n x = true → fine (n + 1) x = true := by
  intro n
  induction n with
  | zero => intro x h; cases x <;> first | exact h | rfl | exact Bool.noConfusion h
  | succ n ih =>
    intro x h
    cases x with
    | list xs => rw [fine, List.all_eq_true] at h ⊢; exact fun y hy => ih y (h y hy)
    | tuple xs => rw [fine, List.all_eq_true] at h ⊢; exact fun y hy => ih y (h y hy)
    | dict _ => exact Bool.noConfusion h
    | _ => exact h
theorem fine_le {n m : Nat} {x : PyData} (h : fine n x = true) (hl : n ≤ m) : fine m x = true := by
  induction m with
  | zero => have : n = 0 := by omega
            subst this; exact h
  | succ m ih =>
    by_cases e : n = m + 1
    · subst e; exact h
    · exact fine_up m x (ih (by omega))
/-- data of a small size, to a depth -/
def sm (L : Nat) : Nat → PyData → Bool
  | _, .none => true
  | _, .bool _ => true
  | _, .int _ => true
  | _, .str x => PyData.strOk x
  | n + 1, .list xs => decide (xs.length ≤ L) && xs.all (sm L n)
  | n + 1, .tuple xs => decide (xs.length ≤ L) && xs.all (sm L n)
  | _, _ => false
theorem sm_tup {L n : Nat} {xs : List PyData} : sm L (n + 1) (.tuple xs) = true ↔ xs.length ≤ L ∧ ∀ x ∈ xs, sm L n x = true := by
  rw [sm, Bool.and_eq_true, decide_eq_true_eq, List.all_eq_true]
theorem sm_list {L n : Nat} {xs : List PyData} : sm L (n + 1) (.list xs) = true ↔ xs.length ≤ L ∧ ∀ x ∈ xs, sm L n x = true := by
  rw [sm, Bool.and_eq_true, decide_eq_true_eq, List.all_eq_true]
theorem sm_fine {L : Nat} : ∀ {n : Nat} {x : PyData}, sm L n x = true → fine n x = true := by
  intro n
  induction n with
  | zero => intro x h; cases x <;> first | exact h | rfl | exact Bool.noConfusion h
  | succ n ih =>
    intro x h
    cases x with
    | list xs => rw [fine, List.all_eq_true]; exact fun y hy => ih ((sm_list.mp h).2 y hy)
    | tuple xs => rw [fine, List.all_eq_true]; exact fun y hy => ih ((sm_tup.mp h).2 y hy)
    | dict _ => exact Bool.noConfusion h
    | _ => exact h
theorem sm_le {L L' : Nat} (hL : L ≤ L') : ∀ {n m : Nat} {x : PyData}, n ≤ m → sm L n x = true → sm L' m x = true := by
  intro n
  induction n with
  | zero => intro m x _ h; cases x <;> first | (cases m <;> exact h) | (cases m <;> rfl) | exact Bool.noConfusion h
  | succ n ih =>
    intro m x hm h
    obtain ⟨m, rfl⟩ : ∃ k, m = k + 1 := ⟨m - 1, by omega⟩
    cases x with
    | list xs => exact sm_list.mpr ⟨Nat.le_trans (sm_list.mp h).1 hL, fun y hy => ih (by omega) ((sm_list.mp h).2 y hy)⟩
    | tuple xs => exact sm_tup.mpr ⟨Nat.le_trans (sm_tup.mp h).1 hL, fun y hy => ih (by omega) ((sm_tup.mp h).2 y hy)⟩
    | dict _ => exact Bool.noConfusion h
    | _ => exact h
/-! ### texts, sorted -/
theorem strs_of {ds ss : List PyData} (h : ∀ d ∈ ds, amD d ss = true) : ∀ d ∈ ds, sort d = 1 ∧ ∃ s, d = .str s := fun d hd => by
  obtain ⟨s, rfl⟩ := amD_str (h d hd)
  exact ⟨rfl, s, rfl⟩
theorem am_mem {d : PyData} {ss : List PyData} (hs : ∀ z ∈ ss, ∃ s, z = PyData.str s) (h : amD d ss = true) : d ∈ ss := by
  obtain ⟨s, rfl⟩ := amD_str h
  unfold amD at h
  rw [Bool.and_eq_true, List.any_eq_true] at h
  obtain ⟨_, z, hz, e⟩ := h
  obtain ⟨t, rfl⟩ := hs z hz
  have : t = s := by simpa [eqv_str] using e
  rw [← this]; exact hz
theorem any_str {ds : List PyData} (hd : ∀ d ∈ ds, ∃ s, d = PyData.str s) {z : PyData} (hz : ∃ s, z = PyData.str s) : (ds.any fun y => PyData.eqv y z) = true ↔ z ∈ ds := by
  refine any_mem (fun y hy => ?_) ?_
  · obtain ⟨s, rfl⟩ := hd y hy; rfl
  · obtain ⟨s, rfl⟩ := hz; rfl
/-- S rises, and none stands twice -/
def Rise (ss : List PyData) : Prop := ss.Pairwise fun a b => PySem.W.dataLe false id a b = true ∧ PyData.eqv a b = false
theorem Rise.nd {ss : List PyData} (hs : ∀ z ∈ ss, ∃ s, z = PyData.str s) (h : Rise ss) : ss.Nodup := by
  rw [List.nodup_iff_pairwise_ne]
  refine List.Pairwise.imp_of_mem (fun {a b} ha hb h e => ?_) h
  subst e
  obtain ⟨s, rfl⟩ := hs a ha
  rw [eqv_refl_key 8 _ rfl] at h
  exact Bool.noConfusion h.2
theorem Rise.le {ss : List PyData} (h : Rise ss) : ss.Pairwise fun a b => PySem.W.dataLe false id a b = true := h.imp fun z => z.1
theorem dedup_all : ∀ (l acc : List PyData) {y : PyData}, (∀ z ∈ l, isKey 8 z = true) → (∀ z ∈ acc, isKey 8 z = true) → (y ∈ acc ∨ y ∈ l) → y ∈ dedup acc l
  | [], _, _, _, _, h => h.elim id (fun q => by simp at q)
  | x :: l, acc, y, hl, ha, h => by
    have hx := hl x List.mem_cons_self
    simp only [dedup]
    split
    · rename_i hin
      refine dedup_all l acc (fun z hz => hl z (List.mem_cons_of_mem _ hz)) ha ?_
      rcases h with q | q
      · exact .inl q
      · rcases List.mem_cons.mp q with e | q
        · rw [e]; exact .inl ((any_mem ha hx).1 hin)
        · exact .inr q
    · refine dedup_all l _ (fun z hz => hl z (List.mem_cons_of_mem _ hz)) (fun z hz => ?_) ?_
      · rcases List.mem_append.mp hz with q | q
        · exact ha z q
        · rw [List.mem_singleton.mp q]; exact hx
      · rcases h with q | q
        · exact .inl (List.mem_append_left _ q)
        · rcases List.mem_cons.mp q with e | q
          · rw [e]; exact .inl (List.mem_append_right _ (List.mem_singleton.mpr rfl))
          · exact .inr q
theorem alike_strs {xs : List PyData} (h : ∀ d ∈ xs, ∃ s, d = PyData.str s) : ∀ x ∈ xs, ∀ y ∈ xs, PySem.W.alike x y = true := fun x hx y hy => by
  obtain ⟨s, rfl⟩ := h x hx
  obtain ⟨t, rfl⟩ := h y hy
  rfl
theorem sort_lot {ds ss : List PyData} (hs : ∀ z ∈ ss, ∃ s, z = PyData.str s) (hr : Rise ss) (h : ∀ d ∈ ds, amD d ss = true) : sortD (dedup [] ds) = ss.filter fun z => ds.any fun y => PyData.eqv y z := by
  have hd : ∀ d ∈ ds, ∃ s, d = PyData.str s := fun d hd => (strs_of h d hd).2
  have hk : ∀ d ∈ ds, isKey 8 d = true := fun d hd' => by obtain ⟨s, rfl⟩ := hd d hd'; rfl
  have mem : ∀ y, y ∈ dedup [] ds ↔ y ∈ ds := fun y => ⟨fun q => (dedup_mem _ _ q).resolve_left (by simp), fun q => dedup_all ds [] hk (by simp) (.inr q)⟩
  have mf : ∀ y, y ∈ (ss.filter fun z => ds.any fun y => PyData.eqv y z) ↔ y ∈ ds := fun y => by
    rw [List.mem_filter]
    constructor
    · rintro ⟨q1, q2⟩; exact (any_str hd (hs y q1)).1 q2
    · intro q; exact ⟨am_mem hs (h y q), (any_str hd (hd y q)).2 q⟩
  have pm : (dedup [] ds).Perm (ss.filter fun z => ds.any fun y => PyData.eqv y z) := by
    refine (List.perm_ext_iff_of_nodup (dedup_nodup ds [] hk (by simp) List.nodup_nil) ((hr.nd hs).filter _)).mpr fun y => ?_
    rw [mem, mf]
  have fs : ∀ d ∈ (ss.filter fun z => ds.any fun y => PyData.eqv y z), ∃ s, d = PyData.str s := fun d q => hs d (List.mem_filter.mp q).1
  rw [sort_perm pm (alike_strs fs) (fun x hx => by obtain ⟨s, rfl⟩ := fs x hx; rfl)]
  exact List.mergeSort_of_pairwise (hr.le.filter _)
theorem ssetD_lot {ds ss : List PyData} (hs : ∀ z ∈ ss, ∃ s, z = PyData.str s) (hr : Rise ss) (h : ∀ d ∈ ds, amD d ss = true) (hf : ∀ d ∈ ds, fine 60 d = true) (hl : ss.length < 4096) (hn : ds.length ≤ top) :
    ssetD (.tuple ds) = some (.list (ss.filter fun z => ds.any fun y => PyData.eqv y z)) := by
  have hd : ∀ d ∈ ds, ∃ s, d = PyData.str s := fun d hd => (strs_of h d hd).2
  have hk : ∀ d ∈ ds, isKey 8 d = true := fun d hd' => by obtain ⟨s, rfl⟩ := hd d hd'; rfl
  have e := sort_lot hs hr h
  have hlen : (dedup [] ds).length ≤ ss.length := by
    have q : (sortD (dedup [] ds)).length = (dedup [] ds).length := (List.mergeSort_perm _ _).length_eq
    rw [← q, e]; exact List.length_filter_le _ _
  have sub : ∀ y ∈ dedup [] ds, y ∈ ds := fun y q => (dedup_mem _ _ q).resolve_left (by simp)
  have ok1 : setOk ds = true := by
    unfold setOk
    have a : (ds.all fun x => sort x == 1) = true := by
      rw [List.all_eq_true]; intro x hx; rw [(strs_of h x hx).1]; rfl
    have b : decide ((dedup [] ds).length < 4096) = true := decide_eq_true (by omega)
    simp [a, b, hn]
  have ok2 : sortOk (dedup [] ds) = true := by
    unfold sortOk
    have a : ((dedup [] ds).all fun x => (dedup [] ds).all (alike x)) = true := by
      rw [List.all_eq_true]; intro x hx; rw [List.all_eq_true]; intro y hy
      exact alike_strs (fun d q => hd d (sub d q)) x hx y hy
    have b : (dedup [] ds).all (fine 60) = true := by rw [List.all_eq_true]; exact fun x hx => hf x (sub x hx)
    have c : ((dedup [] ds).all fun x => match x with | .none => false | .tuple _ => false | _ => true) = true := by
      rw [List.all_eq_true]; intro x hx; obtain ⟨s, rfl⟩ := hd x (sub x hx); rfl
    have d : decide ((dedup [] ds).length ≤ top) = true := decide_eq_true (by have : top = 16777216 := rfl; omega)
    simp only [a, b, d, Bool.true_and, Bool.and_true]
    rw [Bool.or_eq_true]
    exact .inr c
  unfold ssetD seq2
  simp only [Option.bind_some, ok1, ok2, Bool.and_self, if_true, e]
theorem cmp_in {x : PyData} {ys : List PyData} (h : fine 60 x = true) (h2 : ∀ y ∈ ys, fine 60 y = true) : cmpD .inn x (.tuple ys) = some (ys.any fun z => PyData.eqv z x) ∧ cmpD .inn x (.list ys) = some (ys.any fun z => PyData.eqv z x) := by
  have a : ys.all (fine 60) = true := by rw [List.all_eq_true]; exact h2
  unfold cmpD
  simp only [h, a, Bool.and_self, if_true, and_self]
theorem cmp_eq {x y : PyData} (h : fine 60 x = true) (h2 : fine 60 y = true) : cmpD .eq x y = some (PyData.eqv x y) ∧ cmpD .ne x y = some (!PyData.eqv x y) := by
  unfold cmpD
  simp only [h, h2, Bool.and_self, if_true, and_self]
section
variable {M : Mem} {q : W → Mem → Prop} {r : Exc → Mem → Prop}
theorem wp_sub_dict {kvs : List (PyData × PyData)} {k v : PyData} (h : askOk kvs k = true) (e : dget kvs k = some v) : WP (subW (.d (.dict kvs)) (.d k)) M q r ↔ q (.d v) M := by
  unfold subW
  dsimp only
  rw [wp_bnd, wp_rd]
  cases k <;> simp only [h, e, if_true, Option.map_some, wp_some]
theorem wp_sub_tup {xs : List PyData} {i : Int} {v : PyData} (e : idx xs i = some v) : WP (subW (.d (.tuple xs)) (.d (.int i))) M q r ↔ q (.d v) M := by
  unfold subW
  dsimp only
  rw [wp_bnd, wp_rd]
  simp only [e, Option.map_some, wp_some]
theorem wp_sub_list {xs : List PyData} {i : Int} {v : PyData} (e : idx xs i = some v) : WP (subW (.d (.list xs)) (.d (.int i))) M q r ↔ q (.d v) M := by
  unfold subW
  dsimp only
  rw [wp_bnd, wp_rd]
  simp only [e, Option.map_some, wp_some]
end
theorem allB_map (bs : List Bool) : allB (bs.map .bool) = some bs := by
  induction bs with
  | nil => rfl
  | cons b bs ih => simp [allB, ih]
theorem b_len_t {xs : List PyData} : bltD .len [.tuple xs] = some (.int xs.length) := rfl
theorem b_len_l {xs : List PyData} : bltD .len [.list xs] = some (.int xs.length) := rfl
theorem b_lst_t {xs : List PyData} : bltD .lst [.tuple xs] = some (.list xs) := rfl
theorem b_lst_l {xs : List PyData} : bltD .lst [.list xs] = some (.list xs) := rfl
theorem b_tup_l {xs : List PyData} : bltD .tup [.list xs] = some (.tuple xs) := rfl
theorem b_tup_t {xs : List PyData} : bltD .tup [.tuple xs] = some (.tuple xs) := rfl
theorem b_int_i {i : Int} : bltD .int [.int i] = some (.int i) := rfl
theorem b_int_b {b : Bool} : bltD .int [.bool b] = some (.int (if b then 1 else 0)) := rfl
theorem b_all_b {bs : List Bool} : bltD .all [.list (bs.map .bool)] = some (.bool (bs.all id)) := by simp [bltD, allB_map]
theorem cmp_int {i j : Int} : cmpD .lt (.int i) (.int j) = some (decide (i < j)) ∧ cmpD .le (.int i) (.int j) = some (decide (i ≤ j)) ∧ cmpD .gt (.int i) (.int j) = some (decide (j < i)) ∧ cmpD .ge (.int i) (.int j) = some (decide (j ≤ i)) ∧
    cmpD .eq (.int i) (.int j) = some (i == j) ∧ cmpD .ne (.int i) (.int j) = some (!(i == j)) := ⟨rfl, rfl, rfl, rfl, rfl, rfl⟩
theorem zip_t {xs ys : List PyData} : zipW [.d (.tuple xs), .d (.tuple ys)] = K.pur (.items (zipD xs ys)) := rfl
theorem zip_d {xs ys : List PyData} : zipD xs ys = ((xs.zip ys).map fun p => PyData.tuple [p.1, p.2]).map W.d := by
  unfold zipD; rw [List.map_map]; rfl
theorem op_add_l {a b : List PyData} (h : a.length + b.length ≤ top) : opD .add (.list a) (.list b) = some (.list (a ++ b)) := by
  show (if a.length + b.length ≤ top then some (PyData.list (a ++ b)) else none) = _
  rw [if_pos h]
theorem op_add_t {a b : List PyData} (h : a.length + b.length ≤ top) : opD .add (.tuple a) (.tuple b) = some (.tuple (a ++ b)) := by
  show (if a.length + b.length ≤ top then some (PyData.tuple (a ++ b)) else none) = _
  rw [if_pos h]
end Cs
set_option Elab.async false
set_option linter.all false
set_option autoImplicit false
set_option maxRecDepth 100000
set_option maxHeartbeats 2000000
/-! The laws' draws: nest, egg, pick. Loops that append. -/
namespace Cs
open PySem
section
variable {M : Mem} {r : Exc → Mem → Prop}
theorem wp_sub_cell {n : Nat} {ws : List W} {j : Int} {v : W} {q : W → Mem → Prop} (h : M[n]? = some (.lst ws)) (e : idx ws j = some v) : WP (subW (.c n) (.d (.int j))) M q r ↔ q v M := by
  unfold subW
  dsimp only
  rw [wp_bnd, wp_look h, wp_bnd, wp_rd]
  simp only [e, wp_some]
theorem wp_putW {b n : Nat} {ws : List W} {j : Int} {p : Nat} {x : PyData} {q : Unit → Mem → Prop} (h : M[n]? = some (.lst ws)) (e : place ws.length j = some p) : WP (putW b (.c n) (.d (.int j)) (.d x)) M q r ↔ q () (M.set n (.lst (ws.set p (.d x)))) := by
  unfold putW
  simp only [mayPut, if_true]
  rw [wp_bnd, wp_look h, wp_bnd, wp_rd]
  simp only [e, wp_bnd, wp_some, wp_put]
theorem wp_append {b n : Nat} {ws : List W} {x : PyData} {q : W → Mem → Prop} (h : M[n]? = some (.lst ws)) (hl : ws.length < top) : WP (methW b .append (.c n) [.d x]) M q r ↔ q (.d .none) (M.set n (.lst (ws ++ [.d x]))) := by
  unfold methW
  simp only [mayPut, if_true]
  rw [wp_bnd, wp_look h]
  simp only [hl, if_true, wp_bnd, wp_put, wp_pur]
theorem wp_recApp {n : Nat} {ws : List W} {q : Unit → Mem → Prop} (h : M[n]? = some (.lst ws)) : WP (recOk .append (.c n)) M q r ↔ q () M := by
  unfold recOk
  dsimp only
  rw [wp_bnd, wp_look h, wp_pur]
end
theorem get_last {M : Mem} {c : Cell} : (M ++ [c])[M.length]? = some c := by simp
theorem set_last {M : Mem} {c c' : Cell} : (M ++ [c]).set M.length c' = M ++ [c'] := by simp
/-- a cell with two ints -/
def Nest (M : Mem) (n : Nat) : Prop := ∃ a b, M[n]? = some (.lst [.d (.int a), .d (.int b)])
theorem Nest.lt {M : Mem} {n : Nat} (h : Nest M n) : n < M.length := by
  obtain ⟨a, b, e⟩ := h
  exact (List.getElem?_eq_some_iff.mp e).1
theorem Nest.set {M : Mem} {n : Nat} (h : n < M.length) (a b : Int) : Nest (M.set n (.lst [.d (.int a), .d (.int b)])) n := ⟨a, b, by simp [h]⟩
theorem Nest.app {M X : Mem} {n : Nat} (h : Nest M n) : Nest (M ++ X) n := by
  have hl := h.lt
  obtain ⟨a, b, e⟩ := h
  exact ⟨a, b, by rw [List.getElem?_append_left hl]; exact e⟩
def bEgg : Ss := (.cons (.ite (.cmp .gt (.sub (.var 0) (.con (.int 0))) (.con (.int 0))) (.cons (.asg (.v 3) (.op .mod (.blt .int (.cons (.sub (.var 0) (.con (.int 0))) .nil)) (.var 1))) (.cons (.put (.var 0) (.con (.int 0)) (.op .fdiv (.sub (.var 0) (.con (.int 0))) (.var 1))) (.cons (.ret (.var 3)) .nil))) .nil) (.cons (.put (.var 0) (.con (.int 1)) (.op .mod (.blt .int (.cons (.op .add (.op .mul (.sub (.var 0) (.con (.int 1))) (.con (.int 39373))) (.con (.int 6151))) .nil)) (.con (.int 2147483579)))) (.cons (.asg (.v 2) (.op .mod (.blt .int (.cons (.op .mul (.sub (.var 0) (.con (.int 1))) (.op .add (.sub (.var 0) (.con (.int 1))) (.con (.int 37)))) .nil)) (.con (.int 2147483563)))) (.cons (.ret (.op .mod (.blt .int (.cons (.op .fdiv (.var 2) (.con (.int 541))) .nil)) (.var 1))) .nil))))
def bNest : Ss := (.cons (.asg (.v 2) (.ite (.cmp .ge (.var 0) (.op .pow (.con (.int 10)) (.con (.int 18)))) (.op .add (.op .fdiv (.var 0) (.con (.int 4))) (.op .mul (.con (.int 7)) (.var 1))) (.con (.int 0)))) (.cons (.ret (.lst true (.cons (.var 2) (.cons (.op .add (.op .mod (.blt .int (.cons (.op .add (.op .mul (.var 0) (.con (.int 31))) (.op .mul (.con (.int 5003)) (.var 1))) .nil)) (.con (.int 1946157043))) (.con (.int 11))) .nil)))) .nil))
def bPick : Ss := (.cons (.ret (.sub (.var 1) (.call "_law_egg" (.cons (.var 0) (.cons (.blt .len (.cons (.var 1) .nil)) .nil))))) .nil)
/-- the three defs, as all laws have them -/
structure Draws (J : Info) : Prop where
  nest : J.fns "_law_nest" = some ⟨2, 1, true, bNest⟩
  egg : J.fns "_law_egg" = some ⟨2, 2, false, bEgg⟩
  pick : J.fns "_law_pick" = some ⟨2, 0, false, bPick⟩
theorem op_mod {a b : Int} (h : 0 < b) : opD .mod (.int a) (.int b) = some (.int (a.fmod b)) := by
  show (if b ≠ 0 then some (PyData.int (a.fmod b)) else none) = _
  rw [if_pos (by omega)]
theorem op_fdiv {a b : Int} (h : 0 < b) (h2 : b < 1073741824) : opD .fdiv (.int a) (.int b) = some (.int (a.fdiv b)) := by
  show (if b ≠ 0 ∧ b.natAbs < 1073741824 then some (PyData.int (a.fdiv b)) else none) = _
  rw [if_pos ⟨by omega, by omega⟩]
theorem op_mul {a b : Int} (h : -(2 ^ 64) < a ∧ a < 2 ^ 64 ∨ -(2 ^ 64) < b ∧ b < 2 ^ 64) : opD .mul (.int a) (.int b) = some (.int (a * b)) := by
  show (if -(2 ^ 64) < a ∧ a < 2 ^ 64 ∨ -(2 ^ 64) < b ∧ b < 2 ^ 64 then some (PyData.int (a * b)) else none) = _
  rw [if_pos h]
theorem op_add {a b : Int} : opD .add (.int a) (.int b) = some (.int (a + b)) := rfl
theorem op_sub {a b : Int} : opD .sub (.int a) (.int b) = some (.int (a - b)) := rfl
theorem fmod_lt {a b : Int} (h : 0 < b) : 0 ≤ a.fmod b ∧ a.fmod b < b := ⟨Int.fmod_nonneg_of_pos a h, Int.fmod_lt_of_pos a h⟩
section
variable {J : Info} (D : Draws J)
include D
theorem w_nest (k : Nat) (M : Mem) (cell salt : Int) (hs : 0 ≤ salt ∧ salt < 1000000) {q : W → Mem → Prop} {r : Exc → Mem → Prop} (h : ∀ a b : Int, q (.c M.length) (M ++ [.lst [.d (.int a), .d (.int b)]])) :
    WP (calln J (k + 1) "_law_nest" [.d (.int cell), .d (.int salt)]) M q r := by
  rw [wp_call D.nest rfl]
  simp only [bNest, exs, ex_asg, ex_asgs, ex_put, ex_ex, ex_ite, ex_for, ex_while, ex_ret, ex_retN, ex_pass, ex_rai, ex_try, ev, evs, evk, evo, evc, evi, wp_bnd, wp_pur, wp_stop, wp_rai, wp_some, wp_none, wp_rd, wp_rds_nil, wp_rds, wp_bool, wp_ite, lv_d, slot_z, slot_s, it_l, it_t, bp_v, bp_t, bps_nil, bps_cons, Option.bind_some, wipe, Fl.val, K.opt_some, W.dat, isTy, isNo, List.map_cons, List.map_nil, List.replicate, List.append_nil, List.cons_append, List.nil_append, List.length_cons, List.length_nil, List.set_cons_zero, List.set_cons_succ, Option.map_some, Option.map_none, if_true, if_false, Bool.false_eq_true, Bool.not_true, Bool.not_false, reduceIte, b_len_t, b_len_l, b_lst_t, b_lst_l, b_tup_l, b_tup_t, b_int_i, b_int_b, zip_t, Nat.reduceAdd, Nat.reduceLT]
  rw [show opD .pow (.int 10) (.int 18) = some (.int 1000000000000000000) by kernel_rfl]
  simp only [exs, ex_asg, ex_asgs, ex_put, ex_ex, ex_ite, ex_for, ex_while, ex_ret, ex_retN, ex_pass, ex_rai, ex_try, ev, evs, evk, evo, evc, evi, wp_bnd, wp_pur, wp_stop, wp_rai, wp_some, wp_none, wp_rd, wp_rds_nil, wp_rds, wp_bool, wp_ite, lv_d, slot_z, slot_s, it_l, it_t, bp_v, bp_t, bps_nil, bps_cons, Option.bind_some, wipe, Fl.val, K.opt_some, W.dat, isTy, isNo, List.map_cons, List.map_nil, List.replicate, List.append_nil, List.cons_append, List.nil_append, List.length_cons, List.length_nil, List.set_cons_zero, List.set_cons_succ, Option.map_some, Option.map_none, if_true, if_false, Bool.false_eq_true, Bool.not_true, Bool.not_false, reduceIte, b_len_t, b_len_l, b_lst_t, b_lst_l, b_tup_l, b_tup_t, b_int_i, b_int_b, zip_t, Nat.reduceAdd, Nat.reduceLT, cmp_int.2.2.2.1]
  have fin : ∀ g : Int, WP (K.opt (Option.map W.d (opD .mul (.int cell) (.int 31)))) M (fun a m => WP (rd a) m (fun a m => WP (K.opt (Option.map W.d (opD .mul (.int 5003) (.int salt)))) m (fun b m => WP (rd b) m (fun b m => WP (K.opt (Option.map W.d (opD .add a b))) m (fun a m => q (.c M.length) (M ++ [.lst [.d (.int g), .d (.int ((cell * 31 + 5003 * salt).fmod 1946157043 + 11))]])) r) r) r) r) r := by
    intro g
    rw [op_mul (.inr (by omega))]
    simp only [exs, ex_asg, ex_asgs, ex_put, ex_ex, ex_ite, ex_for, ex_while, ex_ret, ex_retN, ex_pass, ex_rai, ex_try, ev, evs, evk, evo, evc, evi, wp_bnd, wp_pur, wp_stop, wp_rai, wp_some, wp_none, wp_rd, wp_rds_nil, wp_rds, wp_bool, wp_ite, lv_d, slot_z, slot_s, it_l, it_t, bp_v, bp_t, bps_nil, bps_cons, Option.bind_some, wipe, Fl.val, K.opt_some, W.dat, isTy, isNo, List.map_cons, List.map_nil, List.replicate, List.append_nil, List.cons_append, List.nil_append, List.length_cons, List.length_nil, List.set_cons_zero, List.set_cons_succ, Option.map_some, Option.map_none, if_true, if_false, Bool.false_eq_true, Bool.not_true, Bool.not_false, reduceIte, b_len_t, b_len_l, b_lst_t, b_lst_l, b_tup_l, b_tup_t, b_int_i, b_int_b, zip_t, Nat.reduceAdd, Nat.reduceLT]
    rw [op_mul (.inl (by omega))]
    simp only [exs, ex_asg, ex_asgs, ex_put, ex_ex, ex_ite, ex_for, ex_while, ex_ret, ex_retN, ex_pass, ex_rai, ex_try, ev, evs, evk, evo, evc, evi, wp_bnd, wp_pur, wp_stop, wp_rai, wp_some, wp_none, wp_rd, wp_rds_nil, wp_rds, wp_bool, wp_ite, lv_d, slot_z, slot_s, it_l, it_t, bp_v, bp_t, bps_nil, bps_cons, Option.bind_some, wipe, Fl.val, K.opt_some, W.dat, isTy, isNo, List.map_cons, List.map_nil, List.replicate, List.append_nil, List.cons_append, List.nil_append, List.length_cons, List.length_nil, List.set_cons_zero, List.set_cons_succ, Option.map_some, Option.map_none, if_true, if_false, Bool.false_eq_true, Bool.not_true, Bool.not_false, reduceIte, b_len_t, b_len_l, b_lst_t, b_lst_l, b_tup_l, b_tup_t, b_int_i, b_int_b, zip_t, Nat.reduceAdd, Nat.reduceLT, op_add]
    exact h _ _
  by_cases hc : (1000000000000000000 : Int) ≤ cell
  · simp only [hc, decide_true, exs, ex_asg, ex_asgs, ex_put, ex_ex, ex_ite, ex_for, ex_while, ex_ret, ex_retN, ex_pass, ex_rai, ex_try, ev, evs, evk, evo, evc, evi, wp_bnd, wp_pur, wp_stop, wp_rai, wp_some, wp_none, wp_rd, wp_rds_nil, wp_rds, wp_bool, wp_ite, lv_d, slot_z, slot_s, it_l, it_t, bp_v, bp_t, bps_nil, bps_cons, Option.bind_some, wipe, Fl.val, K.opt_some, W.dat, isTy, isNo, List.map_cons, List.map_nil, List.replicate, List.append_nil, List.cons_append, List.nil_append, List.length_cons, List.length_nil, List.set_cons_zero, List.set_cons_succ, Option.map_some, Option.map_none, if_true, if_false, Bool.false_eq_true, Bool.not_true, Bool.not_false, reduceIte, b_len_t, b_len_l, b_lst_t, b_lst_l, b_tup_l, b_tup_t, b_int_i, b_int_b, zip_t, Nat.reduceAdd, Nat.reduceLT]
    rw [op_fdiv (by omega) (by omega)]
    simp only [exs, ex_asg, ex_asgs, ex_put, ex_ex, ex_ite, ex_for, ex_while, ex_ret, ex_retN, ex_pass, ex_rai, ex_try, ev, evs, evk, evo, evc, evi, wp_bnd, wp_pur, wp_stop, wp_rai, wp_some, wp_none, wp_rd, wp_rds_nil, wp_rds, wp_bool, wp_ite, lv_d, slot_z, slot_s, it_l, it_t, bp_v, bp_t, bps_nil, bps_cons, Option.bind_some, wipe, Fl.val, K.opt_some, W.dat, isTy, isNo, List.map_cons, List.map_nil, List.replicate, List.append_nil, List.cons_append, List.nil_append, List.length_cons, List.length_nil, List.set_cons_zero, List.set_cons_succ, Option.map_some, Option.map_none, if_true, if_false, Bool.false_eq_true, Bool.not_true, Bool.not_false, reduceIte, b_len_t, b_len_l, b_lst_t, b_lst_l, b_tup_l, b_tup_t, b_int_i, b_int_b, zip_t, Nat.reduceAdd, Nat.reduceLT]
    rw [op_mul (.inl (by omega))]
    simp only [exs, ex_asg, ex_asgs, ex_put, ex_ex, ex_ite, ex_for, ex_while, ex_ret, ex_retN, ex_pass, ex_rai, ex_try, ev, evs, evk, evo, evc, evi, wp_bnd, wp_pur, wp_stop, wp_rai, wp_some, wp_none, wp_rd, wp_rds_nil, wp_rds, wp_bool, wp_ite, lv_d, slot_z, slot_s, it_l, it_t, bp_v, bp_t, bps_nil, bps_cons, Option.bind_some, wipe, Fl.val, K.opt_some, W.dat, isTy, isNo, List.map_cons, List.map_nil, List.replicate, List.append_nil, List.cons_append, List.nil_append, List.length_cons, List.length_nil, List.set_cons_zero, List.set_cons_succ, Option.map_some, Option.map_none, if_true, if_false, Bool.false_eq_true, Bool.not_true, Bool.not_false, reduceIte, b_len_t, b_len_l, b_lst_t, b_lst_l, b_tup_l, b_tup_t, b_int_i, b_int_b, zip_t, Nat.reduceAdd, Nat.reduceLT, op_add]
    rw [op_mul (.inr (by omega))]
    simp only [exs, ex_asg, ex_asgs, ex_put, ex_ex, ex_ite, ex_for, ex_while, ex_ret, ex_retN, ex_pass, ex_rai, ex_try, ev, evs, evk, evo, evc, evi, wp_bnd, wp_pur, wp_stop, wp_rai, wp_some, wp_none, wp_rd, wp_rds_nil, wp_rds, wp_bool, wp_ite, lv_d, slot_z, slot_s, it_l, it_t, bp_v, bp_t, bps_nil, bps_cons, Option.bind_some, wipe, Fl.val, K.opt_some, W.dat, isTy, isNo, List.map_cons, List.map_nil, List.replicate, List.append_nil, List.cons_append, List.nil_append, List.length_cons, List.length_nil, List.set_cons_zero, List.set_cons_succ, Option.map_some, Option.map_none, if_true, if_false, Bool.false_eq_true, Bool.not_true, Bool.not_false, reduceIte, b_len_t, b_len_l, b_lst_t, b_lst_l, b_tup_l, b_tup_t, b_int_i, b_int_b, zip_t, Nat.reduceAdd, Nat.reduceLT]
    rw [op_mul (.inl (by omega))]
    simp only [exs, ex_asg, ex_asgs, ex_put, ex_ex, ex_ite, ex_for, ex_while, ex_ret, ex_retN, ex_pass, ex_rai, ex_try, ev, evs, evk, evo, evc, evi, wp_bnd, wp_pur, wp_stop, wp_rai, wp_some, wp_none, wp_rd, wp_rds_nil, wp_rds, wp_bool, wp_ite, lv_d, slot_z, slot_s, it_l, it_t, bp_v, bp_t, bps_nil, bps_cons, Option.bind_some, wipe, Fl.val, K.opt_some, W.dat, isTy, isNo, List.map_cons, List.map_nil, List.replicate, List.append_nil, List.cons_append, List.nil_append, List.length_cons, List.length_nil, List.set_cons_zero, List.set_cons_succ, Option.map_some, Option.map_none, if_true, if_false, Bool.false_eq_true, Bool.not_true, Bool.not_false, reduceIte, b_len_t, b_len_l, b_lst_t, b_lst_l, b_tup_l, b_tup_t, b_int_i, b_int_b, zip_t, Nat.reduceAdd, Nat.reduceLT, op_add]
    rw [op_mod (by omega)]
    simp only [exs, ex_asg, ex_asgs, ex_put, ex_ex, ex_ite, ex_for, ex_while, ex_ret, ex_retN, ex_pass, ex_rai, ex_try, ev, evs, evk, evo, evc, evi, wp_bnd, wp_pur, wp_stop, wp_rai, wp_some, wp_none, wp_rd, wp_rds_nil, wp_rds, wp_bool, wp_ite, lv_d, slot_z, slot_s, it_l, it_t, bp_v, bp_t, bps_nil, bps_cons, Option.bind_some, wipe, Fl.val, K.opt_some, W.dat, isTy, isNo, List.map_cons, List.map_nil, List.replicate, List.append_nil, List.cons_append, List.nil_append, List.length_cons, List.length_nil, List.set_cons_zero, List.set_cons_succ, Option.map_some, Option.map_none, if_true, if_false, Bool.false_eq_true, Bool.not_true, Bool.not_false, reduceIte, b_len_t, b_len_l, b_lst_t, b_lst_l, b_tup_l, b_tup_t, b_int_i, b_int_b, zip_t, Nat.reduceAdd, Nat.reduceLT, op_add, lstW]
    have : 2 ≤ top := by decide
    simp only [this, if_true, wp_alloc, LV]
    simp only [exs, ex_asg, ex_asgs, ex_put, ex_ex, ex_ite, ex_for, ex_while, ex_ret, ex_retN, ex_pass, ex_rai, ex_try, ev, evs, evk, evo, evc, evi, wp_bnd, wp_pur, wp_stop, wp_rai, wp_some, wp_none, wp_rd, wp_rds_nil, wp_rds, wp_bool, wp_ite, lv_d, slot_z, slot_s, it_l, it_t, bp_v, bp_t, bps_nil, bps_cons, Option.bind_some, wipe, Fl.val, K.opt_some, W.dat, isTy, isNo, List.map_cons, List.map_nil, List.replicate, List.append_nil, List.cons_append, List.nil_append, List.length_cons, List.length_nil, List.set_cons_zero, List.set_cons_succ, Option.map_some, Option.map_none, if_true, if_false, Bool.false_eq_true, Bool.not_true, Bool.not_false, reduceIte, b_len_t, b_len_l, b_lst_t, b_lst_l, b_tup_l, b_tup_t, b_int_i, b_int_b, zip_t, Nat.reduceAdd, Nat.reduceLT, Nat.lt_irrefl]
    exact h _ _
  · simp only [hc, decide_false, exs, ex_asg, ex_asgs, ex_put, ex_ex, ex_ite, ex_for, ex_while, ex_ret, ex_retN, ex_pass, ex_rai, ex_try, ev, evs, evk, evo, evc, evi, wp_bnd, wp_pur, wp_stop, wp_rai, wp_some, wp_none, wp_rd, wp_rds_nil, wp_rds, wp_bool, wp_ite, lv_d, slot_z, slot_s, it_l, it_t, bp_v, bp_t, bps_nil, bps_cons, Option.bind_some, wipe, Fl.val, K.opt_some, W.dat, isTy, isNo, List.map_cons, List.map_nil, List.replicate, List.append_nil, List.cons_append, List.nil_append, List.length_cons, List.length_nil, List.set_cons_zero, List.set_cons_succ, Option.map_some, Option.map_none, if_true, if_false, Bool.false_eq_true, Bool.not_true, Bool.not_false, reduceIte, b_len_t, b_len_l, b_lst_t, b_lst_l, b_tup_l, b_tup_t, b_int_i, b_int_b, zip_t, Nat.reduceAdd, Nat.reduceLT]
    rw [op_mul (.inr (by omega))]
    simp only [exs, ex_asg, ex_asgs, ex_put, ex_ex, ex_ite, ex_for, ex_while, ex_ret, ex_retN, ex_pass, ex_rai, ex_try, ev, evs, evk, evo, evc, evi, wp_bnd, wp_pur, wp_stop, wp_rai, wp_some, wp_none, wp_rd, wp_rds_nil, wp_rds, wp_bool, wp_ite, lv_d, slot_z, slot_s, it_l, it_t, bp_v, bp_t, bps_nil, bps_cons, Option.bind_some, wipe, Fl.val, K.opt_some, W.dat, isTy, isNo, List.map_cons, List.map_nil, List.replicate, List.append_nil, List.cons_append, List.nil_append, List.length_cons, List.length_nil, List.set_cons_zero, List.set_cons_succ, Option.map_some, Option.map_none, if_true, if_false, Bool.false_eq_true, Bool.not_true, Bool.not_false, reduceIte, b_len_t, b_len_l, b_lst_t, b_lst_l, b_tup_l, b_tup_t, b_int_i, b_int_b, zip_t, Nat.reduceAdd, Nat.reduceLT]
    rw [op_mul (.inl (by omega))]
    simp only [exs, ex_asg, ex_asgs, ex_put, ex_ex, ex_ite, ex_for, ex_while, ex_ret, ex_retN, ex_pass, ex_rai, ex_try, ev, evs, evk, evo, evc, evi, wp_bnd, wp_pur, wp_stop, wp_rai, wp_some, wp_none, wp_rd, wp_rds_nil, wp_rds, wp_bool, wp_ite, lv_d, slot_z, slot_s, it_l, it_t, bp_v, bp_t, bps_nil, bps_cons, Option.bind_some, wipe, Fl.val, K.opt_some, W.dat, isTy, isNo, List.map_cons, List.map_nil, List.replicate, List.append_nil, List.cons_append, List.nil_append, List.length_cons, List.length_nil, List.set_cons_zero, List.set_cons_succ, Option.map_some, Option.map_none, if_true, if_false, Bool.false_eq_true, Bool.not_true, Bool.not_false, reduceIte, b_len_t, b_len_l, b_lst_t, b_lst_l, b_tup_l, b_tup_t, b_int_i, b_int_b, zip_t, Nat.reduceAdd, Nat.reduceLT, op_add]
    rw [op_mod (by omega)]
    simp only [exs, ex_asg, ex_asgs, ex_put, ex_ex, ex_ite, ex_for, ex_while, ex_ret, ex_retN, ex_pass, ex_rai, ex_try, ev, evs, evk, evo, evc, evi, wp_bnd, wp_pur, wp_stop, wp_rai, wp_some, wp_none, wp_rd, wp_rds_nil, wp_rds, wp_bool, wp_ite, lv_d, slot_z, slot_s, it_l, it_t, bp_v, bp_t, bps_nil, bps_cons, Option.bind_some, wipe, Fl.val, K.opt_some, W.dat, isTy, isNo, List.map_cons, List.map_nil, List.replicate, List.append_nil, List.cons_append, List.nil_append, List.length_cons, List.length_nil, List.set_cons_zero, List.set_cons_succ, Option.map_some, Option.map_none, if_true, if_false, Bool.false_eq_true, Bool.not_true, Bool.not_false, reduceIte, b_len_t, b_len_l, b_lst_t, b_lst_l, b_tup_l, b_tup_t, b_int_i, b_int_b, zip_t, Nat.reduceAdd, Nat.reduceLT, op_add, lstW]
    have : 2 ≤ top := by decide
    simp only [this, if_true, wp_alloc, LV]
    simp only [exs, ex_asg, ex_asgs, ex_put, ex_ex, ex_ite, ex_for, ex_while, ex_ret, ex_retN, ex_pass, ex_rai, ex_try, ev, evs, evk, evo, evc, evi, wp_bnd, wp_pur, wp_stop, wp_rai, wp_some, wp_none, wp_rd, wp_rds_nil, wp_rds, wp_bool, wp_ite, lv_d, slot_z, slot_s, it_l, it_t, bp_v, bp_t, bps_nil, bps_cons, Option.bind_some, wipe, Fl.val, K.opt_some, W.dat, isTy, isNo, List.map_cons, List.map_nil, List.replicate, List.append_nil, List.cons_append, List.nil_append, List.length_cons, List.length_nil, List.set_cons_zero, List.set_cons_succ, Option.map_some, Option.map_none, if_true, if_false, Bool.false_eq_true, Bool.not_true, Bool.not_false, reduceIte, b_len_t, b_len_l, b_lst_t, b_lst_l, b_tup_l, b_tup_t, b_int_i, b_int_b, zip_t, Nat.reduceAdd, Nat.reduceLT, Nat.lt_irrefl]
    exact h _ _
theorem w_egg (k : Nat) (M : Mem) (n : Nat) (many : Int) (hm : 0 < many ∧ many < 1073741824) (hn : Nest M n) {q : W → Mem → Prop} {r : Exc → Mem → Prop} (h : ∀ (v : Int) (m : Mem), 0 ≤ v → v < many → Nest m n → m.length = M.length → q (.d (.int v)) m) :
    WP (calln J (k + 1) "_law_egg" [.c n, .d (.int many)]) M q r := by
  have hl := hn.lt
  obtain ⟨a, b, e⟩ := hn
  rw [wp_call D.egg rfl]
  simp only [bEgg, exs, ex_asg, ex_asgs, ex_put, ex_ex, ex_ite, ex_for, ex_while, ex_ret, ex_retN, ex_pass, ex_rai, ex_try, ev, evs, evk, evo, evc, evi, wp_bnd, wp_pur, wp_stop, wp_rai, wp_some, wp_none, wp_rd, wp_rds_nil, wp_rds, wp_bool, wp_ite, lv_d, slot_z, slot_s, it_l, it_t, bp_v, bp_t, bps_nil, bps_cons, Option.bind_some, wipe, Fl.val, K.opt_some, W.dat, isTy, isNo, List.map_cons, List.map_nil, List.replicate, List.append_nil, List.cons_append, List.nil_append, List.length_cons, List.length_nil, List.set_cons_zero, List.set_cons_succ, Option.map_some, Option.map_none, if_true, if_false, Bool.false_eq_true, Bool.not_true, Bool.not_false, reduceIte, b_len_t, b_len_l, b_lst_t, b_lst_l, b_tup_l, b_tup_t, b_int_i, b_int_b, zip_t, Nat.reduceAdd, Nat.reduceLT]
  rw [wp_sub_cell (v := .d (.int a)) e rfl]
  simp only [exs, ex_asg, ex_asgs, ex_put, ex_ex, ex_ite, ex_for, ex_while, ex_ret, ex_retN, ex_pass, ex_rai, ex_try, ev, evs, evk, evo, evc, evi, wp_bnd, wp_pur, wp_stop, wp_rai, wp_some, wp_none, wp_rd, wp_rds_nil, wp_rds, wp_bool, wp_ite, lv_d, slot_z, slot_s, it_l, it_t, bp_v, bp_t, bps_nil, bps_cons, Option.bind_some, wipe, Fl.val, K.opt_some, W.dat, isTy, isNo, List.map_cons, List.map_nil, List.replicate, List.append_nil, List.cons_append, List.nil_append, List.length_cons, List.length_nil, List.set_cons_zero, List.set_cons_succ, Option.map_some, Option.map_none, if_true, if_false, Bool.false_eq_true, Bool.not_true, Bool.not_false, reduceIte, b_len_t, b_len_l, b_lst_t, b_lst_l, b_tup_l, b_tup_t, b_int_i, b_int_b, zip_t, Nat.reduceAdd, Nat.reduceLT, cmp_int.2.2.1]
  by_cases ha : 0 < a
  · simp only [ha, decide_true, exs, ex_asg, ex_asgs, ex_put, ex_ex, ex_ite, ex_for, ex_while, ex_ret, ex_retN, ex_pass, ex_rai, ex_try, ev, evs, evk, evo, evc, evi, wp_bnd, wp_pur, wp_stop, wp_rai, wp_some, wp_none, wp_rd, wp_rds_nil, wp_rds, wp_bool, wp_ite, lv_d, slot_z, slot_s, it_l, it_t, bp_v, bp_t, bps_nil, bps_cons, Option.bind_some, wipe, Fl.val, K.opt_some, W.dat, isTy, isNo, List.map_cons, List.map_nil, List.replicate, List.append_nil, List.cons_append, List.nil_append, List.length_cons, List.length_nil, List.set_cons_zero, List.set_cons_succ, Option.map_some, Option.map_none, if_true, if_false, Bool.false_eq_true, Bool.not_true, Bool.not_false, reduceIte, b_len_t, b_len_l, b_lst_t, b_lst_l, b_tup_l, b_tup_t, b_int_i, b_int_b, zip_t, Nat.reduceAdd, Nat.reduceLT]
    rw [wp_sub_cell (v := .d (.int a)) e rfl]
    simp only [exs, ex_asg, ex_asgs, ex_put, ex_ex, ex_ite, ex_for, ex_while, ex_ret, ex_retN, ex_pass, ex_rai, ex_try, ev, evs, evk, evo, evc, evi, wp_bnd, wp_pur, wp_stop, wp_rai, wp_some, wp_none, wp_rd, wp_rds_nil, wp_rds, wp_bool, wp_ite, lv_d, slot_z, slot_s, it_l, it_t, bp_v, bp_t, bps_nil, bps_cons, Option.bind_some, wipe, Fl.val, K.opt_some, W.dat, isTy, isNo, List.map_cons, List.map_nil, List.replicate, List.append_nil, List.cons_append, List.nil_append, List.length_cons, List.length_nil, List.set_cons_zero, List.set_cons_succ, Option.map_some, Option.map_none, if_true, if_false, Bool.false_eq_true, Bool.not_true, Bool.not_false, reduceIte, b_len_t, b_len_l, b_lst_t, b_lst_l, b_tup_l, b_tup_t, b_int_i, b_int_b, zip_t, Nat.reduceAdd, Nat.reduceLT]
    rw [op_mod hm.1]
    simp only [exs, ex_asg, ex_asgs, ex_put, ex_ex, ex_ite, ex_for, ex_while, ex_ret, ex_retN, ex_pass, ex_rai, ex_try, ev, evs, evk, evo, evc, evi, wp_bnd, wp_pur, wp_stop, wp_rai, wp_some, wp_none, wp_rd, wp_rds_nil, wp_rds, wp_bool, wp_ite, lv_d, slot_z, slot_s, it_l, it_t, bp_v, bp_t, bps_nil, bps_cons, Option.bind_some, wipe, Fl.val, K.opt_some, W.dat, isTy, isNo, List.map_cons, List.map_nil, List.replicate, List.append_nil, List.cons_append, List.nil_append, List.length_cons, List.length_nil, List.set_cons_zero, List.set_cons_succ, Option.map_some, Option.map_none, if_true, if_false, Bool.false_eq_true, Bool.not_true, Bool.not_false, reduceIte, b_len_t, b_len_l, b_lst_t, b_lst_l, b_tup_l, b_tup_t, b_int_i, b_int_b, zip_t, Nat.reduceAdd, Nat.reduceLT]
    rw [wp_sub_cell (v := .d (.int a)) e rfl]
    simp only [exs, ex_asg, ex_asgs, ex_put, ex_ex, ex_ite, ex_for, ex_while, ex_ret, ex_retN, ex_pass, ex_rai, ex_try, ev, evs, evk, evo, evc, evi, wp_bnd, wp_pur, wp_stop, wp_rai, wp_some, wp_none, wp_rd, wp_rds_nil, wp_rds, wp_bool, wp_ite, lv_d, slot_z, slot_s, it_l, it_t, bp_v, bp_t, bps_nil, bps_cons, Option.bind_some, wipe, Fl.val, K.opt_some, W.dat, isTy, isNo, List.map_cons, List.map_nil, List.replicate, List.append_nil, List.cons_append, List.nil_append, List.length_cons, List.length_nil, List.set_cons_zero, List.set_cons_succ, Option.map_some, Option.map_none, if_true, if_false, Bool.false_eq_true, Bool.not_true, Bool.not_false, reduceIte, b_len_t, b_len_l, b_lst_t, b_lst_l, b_tup_l, b_tup_t, b_int_i, b_int_b, zip_t, Nat.reduceAdd, Nat.reduceLT]
    rw [op_fdiv hm.1 hm.2]
    simp only [exs, ex_asg, ex_asgs, ex_put, ex_ex, ex_ite, ex_for, ex_while, ex_ret, ex_retN, ex_pass, ex_rai, ex_try, ev, evs, evk, evo, evc, evi, wp_bnd, wp_pur, wp_stop, wp_rai, wp_some, wp_none, wp_rd, wp_rds_nil, wp_rds, wp_bool, wp_ite, lv_d, slot_z, slot_s, it_l, it_t, bp_v, bp_t, bps_nil, bps_cons, Option.bind_some, wipe, Fl.val, K.opt_some, W.dat, isTy, isNo, List.map_cons, List.map_nil, List.replicate, List.append_nil, List.cons_append, List.nil_append, List.length_cons, List.length_nil, List.set_cons_zero, List.set_cons_succ, Option.map_some, Option.map_none, if_true, if_false, Bool.false_eq_true, Bool.not_true, Bool.not_false, reduceIte, b_len_t, b_len_l, b_lst_t, b_lst_l, b_tup_l, b_tup_t, b_int_i, b_int_b, zip_t, Nat.reduceAdd, Nat.reduceLT]
    rw [wp_putW (p := 0) e rfl]
    simp only [exs, ex_asg, ex_asgs, ex_put, ex_ex, ex_ite, ex_for, ex_while, ex_ret, ex_retN, ex_pass, ex_rai, ex_try, ev, evs, evk, evo, evc, evi, wp_bnd, wp_pur, wp_stop, wp_rai, wp_some, wp_none, wp_rd, wp_rds_nil, wp_rds, wp_bool, wp_ite, lv_d, slot_z, slot_s, it_l, it_t, bp_v, bp_t, bps_nil, bps_cons, Option.bind_some, wipe, Fl.val, K.opt_some, W.dat, isTy, isNo, List.map_cons, List.map_nil, List.replicate, List.append_nil, List.cons_append, List.nil_append, List.length_cons, List.length_nil, List.set_cons_zero, List.set_cons_succ, Option.map_some, Option.map_none, if_true, if_false, Bool.false_eq_true, Bool.not_true, Bool.not_false, reduceIte, b_len_t, b_len_l, b_lst_t, b_lst_l, b_tup_l, b_tup_t, b_int_i, b_int_b, zip_t, Nat.reduceAdd, Nat.reduceLT]
    have q1 := fmod_lt (a := a) hm.1
    rw [List.take_of_length_le (by simp)]
    exact h _ _ q1.1 q1.2 (Nest.set hl _ _) (by simp)
  · simp only [ha, decide_false, exs, ex_asg, ex_asgs, ex_put, ex_ex, ex_ite, ex_for, ex_while, ex_ret, ex_retN, ex_pass, ex_rai, ex_try, ev, evs, evk, evo, evc, evi, wp_bnd, wp_pur, wp_stop, wp_rai, wp_some, wp_none, wp_rd, wp_rds_nil, wp_rds, wp_bool, wp_ite, lv_d, slot_z, slot_s, it_l, it_t, bp_v, bp_t, bps_nil, bps_cons, Option.bind_some, wipe, Fl.val, K.opt_some, W.dat, isTy, isNo, List.map_cons, List.map_nil, List.replicate, List.append_nil, List.cons_append, List.nil_append, List.length_cons, List.length_nil, List.set_cons_zero, List.set_cons_succ, Option.map_some, Option.map_none, if_true, if_false, Bool.false_eq_true, Bool.not_true, Bool.not_false, reduceIte, b_len_t, b_len_l, b_lst_t, b_lst_l, b_tup_l, b_tup_t, b_int_i, b_int_b, zip_t, Nat.reduceAdd, Nat.reduceLT]
    rw [wp_sub_cell (v := .d (.int b)) e rfl]
    simp only [exs, ex_asg, ex_asgs, ex_put, ex_ex, ex_ite, ex_for, ex_while, ex_ret, ex_retN, ex_pass, ex_rai, ex_try, ev, evs, evk, evo, evc, evi, wp_bnd, wp_pur, wp_stop, wp_rai, wp_some, wp_none, wp_rd, wp_rds_nil, wp_rds, wp_bool, wp_ite, lv_d, slot_z, slot_s, it_l, it_t, bp_v, bp_t, bps_nil, bps_cons, Option.bind_some, wipe, Fl.val, K.opt_some, W.dat, isTy, isNo, List.map_cons, List.map_nil, List.replicate, List.append_nil, List.cons_append, List.nil_append, List.length_cons, List.length_nil, List.set_cons_zero, List.set_cons_succ, Option.map_some, Option.map_none, if_true, if_false, Bool.false_eq_true, Bool.not_true, Bool.not_false, reduceIte, b_len_t, b_len_l, b_lst_t, b_lst_l, b_tup_l, b_tup_t, b_int_i, b_int_b, zip_t, Nat.reduceAdd, Nat.reduceLT]
    rw [op_mul (.inr (by omega))]
    simp only [exs, ex_asg, ex_asgs, ex_put, ex_ex, ex_ite, ex_for, ex_while, ex_ret, ex_retN, ex_pass, ex_rai, ex_try, ev, evs, evk, evo, evc, evi, wp_bnd, wp_pur, wp_stop, wp_rai, wp_some, wp_none, wp_rd, wp_rds_nil, wp_rds, wp_bool, wp_ite, lv_d, slot_z, slot_s, it_l, it_t, bp_v, bp_t, bps_nil, bps_cons, Option.bind_some, wipe, Fl.val, K.opt_some, W.dat, isTy, isNo, List.map_cons, List.map_nil, List.replicate, List.append_nil, List.cons_append, List.nil_append, List.length_cons, List.length_nil, List.set_cons_zero, List.set_cons_succ, Option.map_some, Option.map_none, if_true, if_false, Bool.false_eq_true, Bool.not_true, Bool.not_false, reduceIte, b_len_t, b_len_l, b_lst_t, b_lst_l, b_tup_l, b_tup_t, b_int_i, b_int_b, zip_t, Nat.reduceAdd, Nat.reduceLT, op_add]
    rw [op_mod (by omega)]
    simp only [exs, ex_asg, ex_asgs, ex_put, ex_ex, ex_ite, ex_for, ex_while, ex_ret, ex_retN, ex_pass, ex_rai, ex_try, ev, evs, evk, evo, evc, evi, wp_bnd, wp_pur, wp_stop, wp_rai, wp_some, wp_none, wp_rd, wp_rds_nil, wp_rds, wp_bool, wp_ite, lv_d, slot_z, slot_s, it_l, it_t, bp_v, bp_t, bps_nil, bps_cons, Option.bind_some, wipe, Fl.val, K.opt_some, W.dat, isTy, isNo, List.map_cons, List.map_nil, List.replicate, List.append_nil, List.cons_append, List.nil_append, List.length_cons, List.length_nil, List.set_cons_zero, List.set_cons_succ, Option.map_some, Option.map_none, if_true, if_false, Bool.false_eq_true, Bool.not_true, Bool.not_false, reduceIte, b_len_t, b_len_l, b_lst_t, b_lst_l, b_tup_l, b_tup_t, b_int_i, b_int_b, zip_t, Nat.reduceAdd, Nat.reduceLT]
    rw [wp_putW (p := 1) e rfl]
    simp only [exs, ex_asg, ex_asgs, ex_put, ex_ex, ex_ite, ex_for, ex_while, ex_ret, ex_retN, ex_pass, ex_rai, ex_try, ev, evs, evk, evo, evc, evi, wp_bnd, wp_pur, wp_stop, wp_rai, wp_some, wp_none, wp_rd, wp_rds_nil, wp_rds, wp_bool, wp_ite, lv_d, slot_z, slot_s, it_l, it_t, bp_v, bp_t, bps_nil, bps_cons, Option.bind_some, wipe, Fl.val, K.opt_some, W.dat, isTy, isNo, List.map_cons, List.map_nil, List.replicate, List.append_nil, List.cons_append, List.nil_append, List.length_cons, List.length_nil, List.set_cons_zero, List.set_cons_succ, Option.map_some, Option.map_none, if_true, if_false, Bool.false_eq_true, Bool.not_true, Bool.not_false, reduceIte, b_len_t, b_len_l, b_lst_t, b_lst_l, b_tup_l, b_tup_t, b_int_i, b_int_b, zip_t, Nat.reduceAdd, Nat.reduceLT]
    have q0 := fmod_lt (a := b * 39373 + 6151) (b := 2147483579) (by omega)
    generalize (b * 39373 + 6151).fmod 2147483579 = b' at q0 ⊢
    have e2 : (M.set n (.lst [.d (.int a), .d (.int b')]))[n]? = some (.lst [.d (.int a), .d (.int b')]) := by simp [hl]
    rw [wp_sub_cell (v := .d (.int b')) e2 rfl]
    simp only [exs, ex_asg, ex_asgs, ex_put, ex_ex, ex_ite, ex_for, ex_while, ex_ret, ex_retN, ex_pass, ex_rai, ex_try, ev, evs, evk, evo, evc, evi, wp_bnd, wp_pur, wp_stop, wp_rai, wp_some, wp_none, wp_rd, wp_rds_nil, wp_rds, wp_bool, wp_ite, lv_d, slot_z, slot_s, it_l, it_t, bp_v, bp_t, bps_nil, bps_cons, Option.bind_some, wipe, Fl.val, K.opt_some, W.dat, isTy, isNo, List.map_cons, List.map_nil, List.replicate, List.append_nil, List.cons_append, List.nil_append, List.length_cons, List.length_nil, List.set_cons_zero, List.set_cons_succ, Option.map_some, Option.map_none, if_true, if_false, Bool.false_eq_true, Bool.not_true, Bool.not_false, reduceIte, b_len_t, b_len_l, b_lst_t, b_lst_l, b_tup_l, b_tup_t, b_int_i, b_int_b, zip_t, Nat.reduceAdd, Nat.reduceLT]
    rw [wp_sub_cell (v := .d (.int b')) e2 rfl]
    simp only [exs, ex_asg, ex_asgs, ex_put, ex_ex, ex_ite, ex_for, ex_while, ex_ret, ex_retN, ex_pass, ex_rai, ex_try, ev, evs, evk, evo, evc, evi, wp_bnd, wp_pur, wp_stop, wp_rai, wp_some, wp_none, wp_rd, wp_rds_nil, wp_rds, wp_bool, wp_ite, lv_d, slot_z, slot_s, it_l, it_t, bp_v, bp_t, bps_nil, bps_cons, Option.bind_some, wipe, Fl.val, K.opt_some, W.dat, isTy, isNo, List.map_cons, List.map_nil, List.replicate, List.append_nil, List.cons_append, List.nil_append, List.length_cons, List.length_nil, List.set_cons_zero, List.set_cons_succ, Option.map_some, Option.map_none, if_true, if_false, Bool.false_eq_true, Bool.not_true, Bool.not_false, reduceIte, b_len_t, b_len_l, b_lst_t, b_lst_l, b_tup_l, b_tup_t, b_int_i, b_int_b, zip_t, Nat.reduceAdd, Nat.reduceLT, op_add]
    rw [op_mul (.inl (by omega))]
    simp only [exs, ex_asg, ex_asgs, ex_put, ex_ex, ex_ite, ex_for, ex_while, ex_ret, ex_retN, ex_pass, ex_rai, ex_try, ev, evs, evk, evo, evc, evi, wp_bnd, wp_pur, wp_stop, wp_rai, wp_some, wp_none, wp_rd, wp_rds_nil, wp_rds, wp_bool, wp_ite, lv_d, slot_z, slot_s, it_l, it_t, bp_v, bp_t, bps_nil, bps_cons, Option.bind_some, wipe, Fl.val, K.opt_some, W.dat, isTy, isNo, List.map_cons, List.map_nil, List.replicate, List.append_nil, List.cons_append, List.nil_append, List.length_cons, List.length_nil, List.set_cons_zero, List.set_cons_succ, Option.map_some, Option.map_none, if_true, if_false, Bool.false_eq_true, Bool.not_true, Bool.not_false, reduceIte, b_len_t, b_len_l, b_lst_t, b_lst_l, b_tup_l, b_tup_t, b_int_i, b_int_b, zip_t, Nat.reduceAdd, Nat.reduceLT]
    rw [op_mod (by omega)]
    simp only [exs, ex_asg, ex_asgs, ex_put, ex_ex, ex_ite, ex_for, ex_while, ex_ret, ex_retN, ex_pass, ex_rai, ex_try, ev, evs, evk, evo, evc, evi, wp_bnd, wp_pur, wp_stop, wp_rai, wp_some, wp_none, wp_rd, wp_rds_nil, wp_rds, wp_bool, wp_ite, lv_d, slot_z, slot_s, it_l, it_t, bp_v, bp_t, bps_nil, bps_cons, Option.bind_some, wipe, Fl.val, K.opt_some, W.dat, isTy, isNo, List.map_cons, List.map_nil, List.replicate, List.append_nil, List.cons_append, List.nil_append, List.length_cons, List.length_nil, List.set_cons_zero, List.set_cons_succ, Option.map_some, Option.map_none, if_true, if_false, Bool.false_eq_true, Bool.not_true, Bool.not_false, reduceIte, b_len_t, b_len_l, b_lst_t, b_lst_l, b_tup_l, b_tup_t, b_int_i, b_int_b, zip_t, Nat.reduceAdd, Nat.reduceLT]
    rw [op_fdiv (by omega) (by omega)]
    simp only [exs, ex_asg, ex_asgs, ex_put, ex_ex, ex_ite, ex_for, ex_while, ex_ret, ex_retN, ex_pass, ex_rai, ex_try, ev, evs, evk, evo, evc, evi, wp_bnd, wp_pur, wp_stop, wp_rai, wp_some, wp_none, wp_rd, wp_rds_nil, wp_rds, wp_bool, wp_ite, lv_d, slot_z, slot_s, it_l, it_t, bp_v, bp_t, bps_nil, bps_cons, Option.bind_some, wipe, Fl.val, K.opt_some, W.dat, isTy, isNo, List.map_cons, List.map_nil, List.replicate, List.append_nil, List.cons_append, List.nil_append, List.length_cons, List.length_nil, List.set_cons_zero, List.set_cons_succ, Option.map_some, Option.map_none, if_true, if_false, Bool.false_eq_true, Bool.not_true, Bool.not_false, reduceIte, b_len_t, b_len_l, b_lst_t, b_lst_l, b_tup_l, b_tup_t, b_int_i, b_int_b, zip_t, Nat.reduceAdd, Nat.reduceLT]
    rw [op_mod hm.1]
    simp only [exs, ex_asg, ex_asgs, ex_put, ex_ex, ex_ite, ex_for, ex_while, ex_ret, ex_retN, ex_pass, ex_rai, ex_try, ev, evs, evk, evo, evc, evi, wp_bnd, wp_pur, wp_stop, wp_rai, wp_some, wp_none, wp_rd, wp_rds_nil, wp_rds, wp_bool, wp_ite, lv_d, slot_z, slot_s, it_l, it_t, bp_v, bp_t, bps_nil, bps_cons, Option.bind_some, wipe, Fl.val, K.opt_some, W.dat, isTy, isNo, List.map_cons, List.map_nil, List.replicate, List.append_nil, List.cons_append, List.nil_append, List.length_cons, List.length_nil, List.set_cons_zero, List.set_cons_succ, Option.map_some, Option.map_none, if_true, if_false, Bool.false_eq_true, Bool.not_true, Bool.not_false, reduceIte, b_len_t, b_len_l, b_lst_t, b_lst_l, b_tup_l, b_tup_t, b_int_i, b_int_b, zip_t, Nat.reduceAdd, Nat.reduceLT]
    rw [List.take_of_length_le (by simp)]
    have q1 := fmod_lt (a := ((b' * (b' + 37)).fmod 2147483563).fdiv 541) hm.1
    exact h _ _ q1.1 q1.2 (Nest.set hl _ _) (by simp)
theorem w_pick (k : Nat) (M : Mem) (n : Nat) (xs : List PyData) (hx : 0 < xs.length ∧ xs.length < 1000000) (hn : Nest M n) {q : W → Mem → Prop} {r : Exc → Mem → Prop} (h : ∀ (x : PyData) (m : Mem), x ∈ xs → Nest m n → m.length = M.length → q (.d x) m) :
    WP (calln J (k + 2) "_law_pick" [.c n, .d (.list xs)]) M q r := by
  rw [wp_call D.pick rfl]
  simp only [bPick, exs, ex_asg, ex_asgs, ex_put, ex_ex, ex_ite, ex_for, ex_while, ex_ret, ex_retN, ex_pass, ex_rai, ex_try, ev, evs, evk, evo, evc, evi, wp_bnd, wp_pur, wp_stop, wp_rai, wp_some, wp_none, wp_rd, wp_rds_nil, wp_rds, wp_bool, wp_ite, lv_d, slot_z, slot_s, it_l, it_t, bp_v, bp_t, bps_nil, bps_cons, Option.bind_some, wipe, Fl.val, K.opt_some, W.dat, isTy, isNo, List.map_cons, List.map_nil, List.replicate, List.append_nil, List.cons_append, List.nil_append, List.length_cons, List.length_nil, List.set_cons_zero, List.set_cons_succ, Option.map_some, Option.map_none, if_true, if_false, Bool.false_eq_true, Bool.not_true, Bool.not_false, reduceIte, b_len_t, b_len_l, b_lst_t, b_lst_l, b_tup_l, b_tup_t, b_int_i, b_int_b, zip_t, Nat.reduceAdd, Nat.reduceLT]
  refine w_egg D k M n xs.length ⟨by omega, by omega⟩ hn fun v m h0 h1 hn' hm => ?_
  have hv : v.toNat < xs.length := by omega
  have e : idx xs v = some xs[v.toNat] := by
    unfold idx place
    rw [if_pos h0, if_pos h1]
    exact List.getElem?_eq_getElem hv
  rw [wp_sub_list e]
  simp only [exs, ex_asg, ex_asgs, ex_put, ex_ex, ex_ite, ex_for, ex_while, ex_ret, ex_retN, ex_pass, ex_rai, ex_try, ev, evs, evk, evo, evc, evi, wp_bnd, wp_pur, wp_stop, wp_rai, wp_some, wp_none, wp_rd, wp_rds_nil, wp_rds, wp_bool, wp_ite, lv_d, slot_z, slot_s, it_l, it_t, bp_v, bp_t, bps_nil, bps_cons, Option.bind_some, wipe, Fl.val, K.opt_some, W.dat, isTy, isNo, List.map_cons, List.map_nil, List.replicate, List.append_nil, List.cons_append, List.nil_append, List.length_cons, List.length_nil, List.set_cons_zero, List.set_cons_succ, Option.map_some, Option.map_none, if_true, if_false, Bool.false_eq_true, Bool.not_true, Bool.not_false, reduceIte, b_len_t, b_len_l, b_lst_t, b_lst_l, b_tup_l, b_tup_t, b_int_i, b_int_b, zip_t, Nat.reduceAdd, Nat.reduceLT]
  rw [List.take_of_length_le (by omega)]
  exact h _ _ (List.getElem_mem hv) hn' hm
end
/-! ### comprehensions whose turns draw -/
/-- a comprehension whose turns may change the memory -/
theorem wp_compM {own : List Nat} {p : Pt} {rt : Sl → K Bool} {re : Sl → K W} {σ : Sl} {q : Bool × List W → Mem → Prop} {r : Exc → Mem → Prop} (Q : List PyData → List PyData → Mem → Prop)
    (step : ∀ x rest acc M, Q (x :: rest) acc M → acc.length < top → ∃ σ', bindP p (.d x) (wipe σ own) = some σ' ∧ WP (rt σ') M (fun t m => if t = true then WP (re σ') m (fun y m => ∃ d, y = .d d ∧ Q rest (acc ++ [d]) m) (fun _ _ => False) else Q rest acc m) (fun _ _ => False))
    (fin : ∀ acc M, Q [] acc M → q (true, acc.map W.d) M) : ∀ (xs acc : List PyData) (M : Mem), Q xs acc M → acc.length + xs.length ≤ top → WP (foldI (cBody own p rt re σ) (xs.map W.d) (acc.map W.d)) M q r
  | [], acc, M, h, _ => fin acc M h
  | x :: xs, acc, M, h, hl => by
    have hl' : acc.length < top := by simp at hl; omega
    obtain ⟨σ', e, w⟩ := step x xs acc M h hl'
    show WP ((cBody own p rt re σ (.d x) (acc.map W.d)).bnd fun p' => if p'.1 then foldI (cBody own p rt re σ) (xs.map W.d) p'.2 else K.pur p') M q r
    rw [wp_bnd]
    unfold cBody
    simp only [e, exs, ex_asg, ex_asgs, ex_put, ex_ex, ex_ite, ex_for, ex_while, ex_ret, ex_retN, ex_pass, ex_rai, ex_try, ev, evs, evk, evo, evc, evi, wp_bnd, wp_pur, wp_stop, wp_rai, wp_some, wp_none, wp_rd, wp_rds_nil, wp_rds, wp_bool, wp_ite, lv_d, slot_z, slot_s, it_l, it_t, bp_v, bp_t, bps_nil, bps_cons, Option.bind_some, wipe, Fl.val, K.opt_some, W.dat, isTy, isNo, List.map_cons, List.map_nil, List.replicate, List.append_nil, List.cons_append, List.nil_append, List.length_cons, List.length_nil, List.set_cons_zero, List.set_cons_succ, Option.map_some, Option.map_none, if_true, if_false, Bool.false_eq_true, Bool.not_true, Bool.not_false, reduceIte, b_len_t, b_len_l, b_lst_t, b_lst_l, b_tup_l, b_tup_t, b_int_i, b_int_b, zip_t, Nat.reduceAdd, Nat.reduceLT, wp_quiet]
    refine wp_mono w (fun t m ht => ?_) fun _ _ z => z.elim
    cases t with
    | false =>
      simp only [exs, ex_asg, ex_asgs, ex_put, ex_ex, ex_ite, ex_for, ex_while, ex_ret, ex_retN, ex_pass, ex_rai, ex_try, ev, evs, evk, evo, evc, evi, wp_bnd, wp_pur, wp_stop, wp_rai, wp_some, wp_none, wp_rd, wp_rds_nil, wp_rds, wp_bool, wp_ite, lv_d, slot_z, slot_s, it_l, it_t, bp_v, bp_t, bps_nil, bps_cons, Option.bind_some, wipe, Fl.val, K.opt_some, W.dat, isTy, isNo, List.map_cons, List.map_nil, List.replicate, List.append_nil, List.cons_append, List.nil_append, List.length_cons, List.length_nil, List.set_cons_zero, List.set_cons_succ, Option.map_some, Option.map_none, if_true, if_false, Bool.false_eq_true, Bool.not_true, Bool.not_false, reduceIte, b_len_t, b_len_l, b_lst_t, b_lst_l, b_tup_l, b_tup_t, b_int_i, b_int_b, zip_t, Nat.reduceAdd, Nat.reduceLT] at ht ⊢
      exact wp_compM Q step fin xs acc m ht (by simp at hl; omega)
    | true =>
      simp only [exs, ex_asg, ex_asgs, ex_put, ex_ex, ex_ite, ex_for, ex_while, ex_ret, ex_retN, ex_pass, ex_rai, ex_try, ev, evs, evk, evo, evc, evi, wp_bnd, wp_pur, wp_stop, wp_rai, wp_some, wp_none, wp_rd, wp_rds_nil, wp_rds, wp_bool, wp_ite, lv_d, slot_z, slot_s, it_l, it_t, bp_v, bp_t, bps_nil, bps_cons, Option.bind_some, wipe, Fl.val, K.opt_some, W.dat, isTy, isNo, List.map_cons, List.map_nil, List.replicate, List.append_nil, List.cons_append, List.nil_append, List.length_cons, List.length_nil, List.set_cons_zero, List.set_cons_succ, Option.map_some, Option.map_none, if_true, if_false, Bool.false_eq_true, Bool.not_true, Bool.not_false, reduceIte, b_len_t, b_len_l, b_lst_t, b_lst_l, b_tup_l, b_tup_t, b_int_i, b_int_b, zip_t, Nat.reduceAdd, Nat.reduceLT, wp_quiet] at ht ⊢
      refine wp_mono ht (fun y m' hy => ?_) fun _ _ z => z.elim
      obtain ⟨d, rfl, hq⟩ := hy
      have : (acc.map W.d).length < top := by simpa using hl'
      simp only [this, exs, ex_asg, ex_asgs, ex_put, ex_ex, ex_ite, ex_for, ex_while, ex_ret, ex_retN, ex_pass, ex_rai, ex_try, ev, evs, evk, evo, evc, evi, wp_bnd, wp_pur, wp_stop, wp_rai, wp_some, wp_none, wp_rd, wp_rds_nil, wp_rds, wp_bool, wp_ite, lv_d, slot_z, slot_s, it_l, it_t, bp_v, bp_t, bps_nil, bps_cons, Option.bind_some, wipe, Fl.val, K.opt_some, W.dat, isTy, isNo, List.map_cons, List.map_nil, List.replicate, List.append_nil, List.cons_append, List.nil_append, List.length_cons, List.length_nil, List.set_cons_zero, List.set_cons_succ, Option.map_some, Option.map_none, if_true, if_false, Bool.false_eq_true, Bool.not_true, Bool.not_false, reduceIte, b_len_t, b_len_l, b_lst_t, b_lst_l, b_tup_l, b_tup_t, b_int_i, b_int_b, zip_t, Nat.reduceAdd, Nat.reduceLT]
      have e2 : acc.map W.d ++ [W.d d] = (acc ++ [d]).map W.d := by simp
      rw [e2]
      exact wp_compM Q step fin xs (acc ++ [d]) m' hq (by simp at hl ⊢; omega)
/-- a loop that appends what it makes of each item -/
theorem wp_forApp {O : Ora2} {i j n : Nat} {e : E} {σ : Sl} {q : Bool × Fl × Sl → Mem → Prop} {r : Exc → Mem → Prop} (g : PyData → PyData) (hj : j < σ.length) (hij : i ≠ j) (hi : σ[i]? = some (some (.c n))) :
    ∀ (xs : List PyData) (us : List W) (σ' : Sl) (M : Mem), (σ' = σ ∨ ∃ w, σ' = σ.set j w) → M[n]? = some (.lst us) → us.length + xs.length ≤ top →
    (∀ x ∈ xs, ∀ M', ev O.toOra (σ.set j (some (.d x))) e M' = .ok (.d (g x)) M') →
    (∀ σ', (σ' = σ ∨ ∃ w, σ' = σ.set j w) → q (true, .nx, σ') (M.set n (.lst (us ++ xs.map fun x => W.d (g x))))) →
    WP (foldI (forB O (.v j) (.cons (.ex (.meth .append (.var i) (.cons e .nil))) .nil)) (xs.map W.d) (.nx, σ')) M q r := by
  intro xs
  induction xs with
  | nil =>
    intro us σ' M hs hM hl he hq
    simp only [List.map_nil, foldI, wp_pur]
    have := hq σ' hs
    simp only [List.map_nil, List.append_nil] at this
    have e2 : M.set n (.lst us) = M := by
      obtain ⟨hn, ee⟩ := List.getElem?_eq_some_iff.mp hM
      rw [← ee]; simp
    rw [e2] at this
    exact this
  | cons x xs ih =>
    intro us σ' M hs hM hl he hq
    have hlen : σ'.length = σ.length := by rcases hs with rfl | ⟨w, rfl⟩ <;> simp
    have hset : σ'.set j (some (.d x)) = σ.set j (some (.d x)) := by rcases hs with rfl | ⟨w, rfl⟩ <;> simp
    have hslot : slot (σ.set j (some (.d x))) i = K.pur (.c n) := by
      unfold slot
      rw [List.getElem?_set_ne (Ne.symm hij), hi]
    have hx := he x List.mem_cons_self M
    have hus : us.length < top := by simp at hl; omega
    rw [List.map_cons, foldI, wp_bnd, wp_forB]
    simp only [bp_v, hlen, hj, if_true, wp_some, hset]
    simp only [exs, ex_asg, ex_asgs, ex_put, ex_ex, ex_ite, ex_for, ex_while, ex_ret, ex_retN, ex_pass, ex_rai, ex_try, ev, evs, evk, evo, evc, evi, wp_bnd, wp_pur, wp_stop, wp_rai, wp_some, wp_none, wp_rd, wp_rds_nil, wp_rds, wp_bool, wp_ite, lv_d, slot_z, slot_s, it_l, it_t, bp_v, bp_t, bps_nil, bps_cons, Option.bind_some, wipe, Fl.val, K.opt_some, W.dat, isTy, isNo, List.map_cons, List.map_nil, List.replicate, List.append_nil, List.cons_append, List.nil_append, List.length_cons, List.length_nil, List.set_cons_zero, List.set_cons_succ, Option.map_some, Option.map_none, if_true, if_false, Bool.false_eq_true, Bool.not_true, Bool.not_false, reduceIte, b_len_t, b_len_l, b_lst_t, b_lst_l, b_tup_l, b_tup_t, b_int_i, b_int_b, zip_t, Nat.reduceAdd, Nat.reduceLT, hslot]
    rw [wp_recApp hM, wp_eq hx, wp_append hM hus]
    have hn := (List.getElem?_eq_some_iff.mp hM).1
    have := ih (us ++ [.d (g x)]) (σ.set j (some (.d x))) (M.set n (.lst (us ++ [.d (g x)]))) (.inr ⟨_, rfl⟩) (by simp [hn]) (by simp at hl ⊢; omega) (fun y hy => he y (List.mem_cons_of_mem _ hy)) (fun σ'' h'' => by
      have := hq σ'' h''
      simpa using this)
    exact this
end Cs
set_option Elab.async false
set_option linter.all false
set_option autoImplicit false
set_option maxRecDepth 100000
set_option maxHeartbeats 4000000
/-! k29: the law. -/
namespace Cs
open PySem
def b_which29 : Ss := (.cons (.asg (.v 1) (.lst false (.cons (.ext (.isc "InvalidRule" ["InvalidRule"] ["ParcelError", "InvalidDiary", "InvalidDeed", "InvalidRow", "InvalidPart", "InvalidDay", "InvalidIndex", "InvalidBook", "Unlike", "NothingToUndo", "TooMany", "WrongLine", "Failed"]) (.cons (.var 0) .nil)) (.cons (.ext (.isc "InvalidDiary" ["InvalidDiary"] ["ParcelError", "InvalidRule", "InvalidDeed", "InvalidRow", "InvalidPart", "InvalidDay", "InvalidIndex", "InvalidBook", "Unlike", "NothingToUndo", "TooMany", "WrongLine", "Failed"]) (.cons (.var 0) .nil)) (.cons (.ext (.isc "InvalidDeed" ["InvalidDeed"] ["ParcelError", "InvalidRule", "InvalidDiary", "InvalidRow", "InvalidPart", "InvalidDay", "InvalidIndex", "InvalidBook", "Unlike", "NothingToUndo", "TooMany", "WrongLine", "Failed"]) (.cons (.var 0) .nil)) .nil))))) (.cons (.asg (.v 1) (.op .add (.var 1) (.lst false (.cons (.ext (.isc "InvalidRow" ["InvalidRow"] ["ParcelError", "InvalidRule", "InvalidDiary", "InvalidDeed", "InvalidPart", "InvalidDay", "InvalidIndex", "InvalidBook", "Unlike", "NothingToUndo", "TooMany", "WrongLine", "Failed"]) (.cons (.var 0) .nil)) (.cons (.ext (.isc "InvalidPart" ["InvalidPart"] ["ParcelError", "InvalidRule", "InvalidDiary", "InvalidDeed", "InvalidRow", "InvalidDay", "InvalidIndex", "InvalidBook", "Unlike", "NothingToUndo", "TooMany", "WrongLine", "Failed"]) (.cons (.var 0) .nil)) (.cons (.ext (.isc "InvalidDay" ["InvalidDay"] ["ParcelError", "InvalidRule", "InvalidDiary", "InvalidDeed", "InvalidRow", "InvalidPart", "InvalidIndex", "InvalidBook", "Unlike", "NothingToUndo", "TooMany", "WrongLine", "Failed"]) (.cons (.var 0) .nil)) .nil)))))) (.cons (.asg (.v 1) (.op .add (.var 1) (.lst false (.cons (.ext (.isc "InvalidIndex" ["InvalidIndex"] ["ParcelError", "InvalidRule", "InvalidDiary", "InvalidDeed", "InvalidRow", "InvalidPart", "InvalidDay", "InvalidBook", "Unlike", "NothingToUndo", "TooMany", "WrongLine", "Failed"]) (.cons (.var 0) .nil)) (.cons (.ext (.isc "InvalidBook" ["InvalidBook"] ["ParcelError", "InvalidRule", "InvalidDiary", "InvalidDeed", "InvalidRow", "InvalidPart", "InvalidDay", "InvalidIndex", "Unlike", "NothingToUndo", "TooMany", "WrongLine", "Failed"]) (.cons (.var 0) .nil)) (.cons (.ext (.isc "Unlike" ["Unlike"] ["ParcelError", "InvalidRule", "InvalidDiary", "InvalidDeed", "InvalidRow", "InvalidPart", "InvalidDay", "InvalidIndex", "InvalidBook", "NothingToUndo", "TooMany", "WrongLine", "Failed"]) (.cons (.var 0) .nil)) .nil)))))) (.cons (.asg (.v 1) (.op .add (.var 1) (.lst false (.cons (.ext (.isc "NothingToUndo" ["NothingToUndo"] ["ParcelError", "InvalidRule", "InvalidDiary", "InvalidDeed", "InvalidRow", "InvalidPart", "InvalidDay", "InvalidIndex", "InvalidBook", "Unlike", "TooMany", "WrongLine", "Failed"]) (.cons (.var 0) .nil)) (.cons (.ext (.isc "TooMany" ["TooMany"] ["ParcelError", "InvalidRule", "InvalidDiary", "InvalidDeed", "InvalidRow", "InvalidPart", "InvalidDay", "InvalidIndex", "InvalidBook", "Unlike", "NothingToUndo", "WrongLine", "Failed"]) (.cons (.var 0) .nil)) (.cons (.ext (.isc "WrongLine" ["WrongLine"] ["ParcelError", "InvalidRule", "InvalidDiary", "InvalidDeed", "InvalidRow", "InvalidPart", "InvalidDay", "InvalidIndex", "InvalidBook", "Unlike", "NothingToUndo", "TooMany", "Failed"]) (.cons (.var 0) .nil)) .nil)))))) (.cons (.ret (.op .add (.var 1) (.lst false (.cons (.ext (.isc "Failed" ["Failed"] ["ParcelError", "InvalidRule", "InvalidDiary", "InvalidDeed", "InvalidRow", "InvalidPart", "InvalidDay", "InvalidIndex", "InvalidBook", "Unlike", "NothingToUndo", "TooMany", "WrongLine"]) (.cons (.var 0) .nil)) .nil)))) .nil)))))
def d_which29 : FnD := ⟨1, 1, false, b_which29⟩
def b_law29 : Ss := (.cons (.for_ (.v 1) (.of (.slc (.op .add (.lst false (.cons (.con (.int 0)) .nil)) (.var 0)) .no (.yes (.con (.int 6))))) (.cons (.asg (.v 2) (.call "_law_nest" (.cons (.var 1) (.cons (.con (.int 171)) .nil)))) (.cons (.asgs (.cons (.v 5) (.cons (.v 6) .nil)) (.cons (.call "_law_pick" (.cons (.var 2) (.cons (.lst false (.cons (.con (.str "")) (.cons (.con (.str "a parcel")) (.cons (.con (.str "nobody at the door")) .nil)))) .nil))) (.cons (.call "_law_egg" (.cons (.var 2) (.cons (.con (.int 400)) .nil))) .nil))) (.cons (.asg (.v 3) (.lst true (.cons (.ext (.mkx "InvalidRule") (.cons (.var 5) .nil)) (.cons (.ext (.mkx "InvalidDiary") (.cons (.var 5) .nil)) (.cons (.ext (.mkx "InvalidDeed") (.cons (.var 5) .nil)) (.cons (.ext (.mkx "InvalidRow") (.cons (.var 5) .nil)) (.cons (.ext (.mkx "InvalidPart") (.cons (.var 5) .nil)) .nil))))))) (.cons (.asg (.v 3) (.cat (.var 3) (.lst true (.cons (.ext (.mkx "InvalidDay") (.cons (.var 5) .nil)) (.cons (.ext (.mkx "InvalidIndex") (.cons (.var 5) .nil)) (.cons (.ext (.mkx "InvalidBook") (.cons (.var 5) .nil)) (.cons (.ext (.mkx "Unlike") (.cons (.var 5) .nil)) .nil))))))) (.cons (.asg (.v 3) (.cat (.var 3) (.lst true (.cons (.ext (.mkx "NothingToUndo") (.cons (.var 5) .nil)) (.cons (.ext (.mkf "TooMany" "limit") (.cons (.var 6) .nil)) (.cons (.ext (.mkf "WrongLine" "line") (.cons (.var 6) .nil)) (.cons (.ext (.mkf "Failed" "place") (.cons (.var 6) .nil)) .nil))))))) (.cons (.for_ (.v 4) (.rng (.cons (.con (.int 13)) .nil)) (.cons (.ite (.cmp .ne (.call "_law_which" (.cons (.sub (.var 3) (.var 4)) .nil)) (.comp false [7] (.cmp .eq (.var 7) (.var 4)) (.v 7) (.rng (.cons (.con (.int 13)) .nil)) .no)) (.cons (.ret (.con (.bool false))) .nil) .nil) (.cons (.ite (.or_ (.not_ (.ext (.isc "ParcelError" ["ParcelError", "InvalidRule", "InvalidDiary", "InvalidDeed", "InvalidRow", "InvalidPart", "InvalidDay", "InvalidIndex", "InvalidBook", "Unlike", "NothingToUndo", "TooMany", "WrongLine", "Failed"] []) (.cons (.sub (.var 3) (.var 4)) .nil))) (.not_ (.ext (.isc "ValueError" ["ParcelError", "InvalidRule", "InvalidDiary", "InvalidDeed", "InvalidRow", "InvalidPart", "InvalidDay", "InvalidIndex", "InvalidBook", "Unlike", "NothingToUndo", "TooMany", "WrongLine", "Failed"] []) (.cons (.sub (.var 3) (.var 4)) .nil)))) (.cons (.ret (.con (.bool false))) .nil) .nil) (.cons (.ite (.and_ (.cmp .lt (.var 4) (.con (.int 10))) (.cmp .ne (.ext (.strx ["ParcelError", "InvalidRule", "InvalidDiary", "InvalidDeed", "InvalidRow", "InvalidPart", "InvalidDay", "InvalidIndex", "InvalidBook", "Unlike", "NothingToUndo"]) (.cons (.sub (.var 3) (.var 4)) .nil)) (.var 5))) (.cons (.ret (.con (.bool false))) .nil) .nil) .nil)))) (.cons (.ite (.cmp .ne (.lst false (.cons (.ext (.att "TooMany" "limit" true) (.cons (.sub (.var 3) (.con (.int 10))) .nil)) (.cons (.ext (.att "WrongLine" "line" true) (.cons (.sub (.var 3) (.con (.int 11))) .nil)) (.cons (.ext (.att "Failed" "place" true) (.cons (.sub (.var 3) (.con (.int 12))) .nil)) .nil)))) (.op .mul (.lst false (.cons (.var 6) .nil)) (.con (.int 3)))) (.cons (.ret (.con (.bool false))) .nil) .nil) (.cons (.ite (.cmp .ne (.call "_law_which" (.cons (.ext (.mkx "ParcelError") (.cons (.var 5) .nil)) .nil)) (.op .mul (.lst false (.cons (.con (.bool false)) .nil)) (.con (.int 13)))) (.cons (.ret (.con (.bool false))) .nil) .nil) .nil))))))))) (.cons (.ret (.con (.bool true))) .nil))
def d_law29 : FnD := ⟨1, 7, false, b_law29⟩
def cls13 : List Str := ["InvalidRule", "InvalidDiary", "InvalidDeed", "InvalidRow", "InvalidPart", "InvalidDay", "InvalidIndex", "InvalidBook", "Unlike", "NothingToUndo", "TooMany", "WrongLine", "Failed"]
def errs14 : List Str := ["ParcelError", "InvalidRule", "InvalidDiary", "InvalidDeed", "InvalidRow", "InvalidPart", "InvalidDay", "InvalidIndex", "InvalidBook", "Unlike", "NothingToUndo", "TooMany", "WrongLine", "Failed"]
def exo1 (x t : Str) : ObD := ⟨true, x, some t, []⟩
def exo2 (x f : Str) (n : Int) : ObD := ⟨true, x, none, [(f, .int n)]⟩
def ob13 (t : Str) (n : Int) : List ObD := [exo1 "InvalidRule" t, exo1 "InvalidDiary" t, exo1 "InvalidDeed" t, exo1 "InvalidRow" t, exo1 "InvalidPart" t, exo1 "InvalidDay" t, exo1 "InvalidIndex" t, exo1 "InvalidBook" t, exo1 "Unlike" t, exo1 "NothingToUndo" t, exo2 "TooMany" "limit" n, exo2 "WrongLine" "line" n, exo2 "Failed" "place" n]
def whichL (x : Str) : List PyData := cls13.map fun c => .bool (x == c)
section
variable {M : Mem} {q : W → Mem → Prop} {r : Exc → Mem → Prop} {O : Ora} {n : Nat} {o : ObD}
theorem w_cat {n' : Nat} {ws us : List W} (h1 : M[n]? = some (.lst ws)) (h2 : M[n']? = some (.lst us)) (hl : ws.length + us.length ≤ top) : WP (catW (.c n) (.c n')) M q r ↔ q (.c M.length) (M ++ [.lst (ws ++ us)]) := by
  unfold catW wsOf
  dsimp only
  rw [wp_bnd, wp_bnd, wp_look h1]
  dsimp only
  rw [wp_pur, wp_bnd, wp_bnd, wp_look h2]
  dsimp only
  rw [wp_pur]
  unfold lstW
  rw [if_pos (by rw [List.length_append]; exact hl), if_pos rfl]
  exact wp_alloc
theorem ev_ext {σ : Sl} {op : XO} {es : Es} : ev O σ (.ext op es) = (evs O σ es).bnd (xW O op) := by rw [ev]
theorem w_isc {cls : Str} {yes no : List Str} (h : M[n]? = some (.obj o)) (he : o.err = true) (hm : o.cls ∈ errs14) (ha : (errs14.all fun x => yes.contains x || no.contains x) = true) : WP (xW O (.isc cls yes no) [.c n]) M q r ↔ q (.d (.bool (yes.contains o.cls))) M := by
  have hc : (yes.contains o.cls || no.contains o.cls) = true := List.all_eq_true.mp ha o.cls hm
  show WP ((obAt (.c n)).bnd _) M q r ↔ _
  unfold obAt
  dsimp only
  rw [wp_bnd, wp_bnd, wp_look h]
  dsimp only
  rw [wp_pur]
  rw [if_pos he]
  cases hy : yes.contains o.cls with
  | true => rw [if_pos rfl]; exact wp_pur
  | false =>
    rw [hy, Bool.false_or] at hc
    rw [if_neg (by simp), if_pos hc]
    exact wp_pur
theorem w_att {cls fld : Str} {x : PyData} (h : M[n]? = some (.obj o)) (hc : o.cls = cls ∧ o.err = true) (hx : o.fs.lookup fld = some x) : WP (xW O (.att cls fld true) [.c n]) M q r ↔ q (.d x) M := by
  show WP ((obAt (.c n)).bnd _) M q r ↔ _
  unfold obAt
  dsimp only
  rw [wp_bnd, wp_bnd, wp_look h]
  dsimp only
  rw [wp_pur, if_pos hc, hx]
  exact wp_some
theorem w_strx {cs : List Str} {t : Str} (h : M[n]? = some (.obj o)) (hc : (o.err && cs.contains o.cls) = true) (hx : o.txt = some t) : WP (xW O (.strx cs) [.c n]) M q r ↔ q (.d (.str t)) M := by
  show WP ((obAt (.c n)).bnd _) M q r ↔ _
  unfold obAt
  dsimp only
  rw [wp_bnd, wp_bnd, wp_look h]
  dsimp only
  rw [wp_pur, if_pos hc, hx]
  exact wp_some
theorem w_mkx {cls t : Str} : WP (xW O (.mkx cls) [.d (.str t)]) M q r ↔ q (.c M.length) (M ++ [.obj (exo1 cls t)]) := Iff.rfl
theorem w_mkf {cls fld : Str} {i : Int} : WP (xW O (.mkf cls fld) [.d (.int i)]) M q r ↔ q (.c M.length) (M ++ [.obj (exo2 cls fld i)]) := Iff.rfl
theorem w_lstT {ws : List W} (h : ws.length ≤ top) : WP (lstW true ws) M q r ↔ q (.c M.length) (M ++ [.lst ws]) := by
  unfold lstW
  rw [if_pos h, if_pos rfl]
  exact wp_alloc
theorem w_wsOf {ws : List W} {q : List W → Mem → Prop} (h : M[n]? = some (.lst ws)) : WP (wsOf (.c n)) M q r ↔ q ws M := by
  unfold wsOf
  dsimp only
  rw [wp_bnd, wp_look h]
  exact wp_pur
end
section
variable {J : Info} (hw : J.fns "_law_which" = some d_which29)
theorem wl1E {M : Mem} {q : W → Mem → Prop} {r : Exc → Mem → Prop} {x0 : PyData} : WP (lstW false [.d x0]) M q r ↔ q (.d (.list [x0])) M := wp_lst (xs := [x0]) (show 1 ≤ top by decide)
theorem wl3F {M : Mem} {q : W → Mem → Prop} {r : Exc → Mem → Prop} {x0 x1 x2 : PyData} : WP (lstW false [.d x0, .d x1, .d x2]) M q r ↔ q (.d (.list [x0, x1, x2])) M := wp_lst (xs := [x0, x1, x2]) (show 3 ≤ top by decide)
include hw
theorem w_which (k : Nat) (M : Mem) {n : Nat} {o : ObD} (h : M[n]? = some (.obj o)) (he : o.err = true) (hc : o.cls ∈ errs14) : calln J (k + 1) "_law_which" [.c n] M = .ok (.d (.list (whichL o.cls))) M := by
  refine wp_to ?_
  have one : ∀ c : Str, [c].contains o.cls = (o.cls == c) := fun c => by simp [List.contains, List.elem]; cases (o.cls == c) <;> rfl
  rw [wp_call (d := d_which29) hw rfl]
  simp only [d_which29, b_which29, exs, ex_asg, ex_asgs, ex_asgt, ex_put, ex_ex, ex_ite, ex_for, ex_while, ex_ret, ex_retN, ex_pass, ex_rai, ex_try, ev, evs, evk, evo, evc, evi, wp_bnd, wp_pur, wp_stop, wp_rai, wp_some, wp_none, wp_rd, wp_rds_nil, wp_rds, wp_bool, wp_ite, lv_d, slot_z, slot_s, it_l, it_t, bp_v, bp_t, bps_nil, bps_cons, Option.bind_some, wipe, Fl.val, K.opt_some, W.dat, isTy, isNo, List.map_cons, List.map_nil, List.replicate, List.append_nil, List.cons_append, List.nil_append, List.length_cons, List.length_nil, List.set_cons_zero, List.set_cons_succ, Option.map_some, Option.map_none, if_true, if_false, Bool.false_eq_true, Bool.not_true, Bool.not_false, reduceIte, b_len_t, b_len_l, b_lst_t, b_lst_l, b_tup_l, b_tup_t, b_int_i, b_int_b, zip_t, Nat.reduceAdd, Nat.reduceLT, ev_ext]
  refine (w_isc h he hc (by decide +kernel)).mpr ?_
  try simp only [exs, ex_asg, ex_asgs, ex_asgt, ex_put, ex_ex, ex_ite, ex_for, ex_while, ex_ret, ex_retN, ex_pass, ex_rai, ex_try, ev, evs, evk, evo, evc, evi, wp_bnd, wp_pur, wp_stop, wp_rai, wp_some, wp_none, wp_rd, wp_rds_nil, wp_rds, wp_bool, wp_ite, lv_d, slot_z, slot_s, it_l, it_t, bp_v, bp_t, bps_nil, bps_cons, Option.bind_some, wipe, Fl.val, K.opt_some, W.dat, isTy, isNo, List.map_cons, List.map_nil, List.replicate, List.append_nil, List.cons_append, List.nil_append, List.length_cons, List.length_nil, List.set_cons_zero, List.set_cons_succ, Option.map_some, Option.map_none, if_true, if_false, Bool.false_eq_true, Bool.not_true, Bool.not_false, reduceIte, b_len_t, b_len_l, b_lst_t, b_lst_l, b_tup_l, b_tup_t, b_int_i, b_int_b, zip_t, Nat.reduceAdd, Nat.reduceLT, ev_ext]
  refine (w_isc h he hc (by decide +kernel)).mpr ?_
  try simp only [exs, ex_asg, ex_asgs, ex_asgt, ex_put, ex_ex, ex_ite, ex_for, ex_while, ex_ret, ex_retN, ex_pass, ex_rai, ex_try, ev, evs, evk, evo, evc, evi, wp_bnd, wp_pur, wp_stop, wp_rai, wp_some, wp_none, wp_rd, wp_rds_nil, wp_rds, wp_bool, wp_ite, lv_d, slot_z, slot_s, it_l, it_t, bp_v, bp_t, bps_nil, bps_cons, Option.bind_some, wipe, Fl.val, K.opt_some, W.dat, isTy, isNo, List.map_cons, List.map_nil, List.replicate, List.append_nil, List.cons_append, List.nil_append, List.length_cons, List.length_nil, List.set_cons_zero, List.set_cons_succ, Option.map_some, Option.map_none, if_true, if_false, Bool.false_eq_true, Bool.not_true, Bool.not_false, reduceIte, b_len_t, b_len_l, b_lst_t, b_lst_l, b_tup_l, b_tup_t, b_int_i, b_int_b, zip_t, Nat.reduceAdd, Nat.reduceLT, ev_ext]
  refine (w_isc h he hc (by decide +kernel)).mpr ?_
  try simp only [exs, ex_asg, ex_asgs, ex_asgt, ex_put, ex_ex, ex_ite, ex_for, ex_while, ex_ret, ex_retN, ex_pass, ex_rai, ex_try, ev, evs, evk, evo, evc, evi, wp_bnd, wp_pur, wp_stop, wp_rai, wp_some, wp_none, wp_rd, wp_rds_nil, wp_rds, wp_bool, wp_ite, lv_d, slot_z, slot_s, it_l, it_t, bp_v, bp_t, bps_nil, bps_cons, Option.bind_some, wipe, Fl.val, K.opt_some, W.dat, isTy, isNo, List.map_cons, List.map_nil, List.replicate, List.append_nil, List.cons_append, List.nil_append, List.length_cons, List.length_nil, List.set_cons_zero, List.set_cons_succ, Option.map_some, Option.map_none, if_true, if_false, Bool.false_eq_true, Bool.not_true, Bool.not_false, reduceIte, b_len_t, b_len_l, b_lst_t, b_lst_l, b_tup_l, b_tup_t, b_int_i, b_int_b, zip_t, Nat.reduceAdd, Nat.reduceLT, ev_ext, wl3F]
  refine (w_isc h he hc (by decide +kernel)).mpr ?_
  try simp only [exs, ex_asg, ex_asgs, ex_asgt, ex_put, ex_ex, ex_ite, ex_for, ex_while, ex_ret, ex_retN, ex_pass, ex_rai, ex_try, ev, evs, evk, evo, evc, evi, wp_bnd, wp_pur, wp_stop, wp_rai, wp_some, wp_none, wp_rd, wp_rds_nil, wp_rds, wp_bool, wp_ite, lv_d, slot_z, slot_s, it_l, it_t, bp_v, bp_t, bps_nil, bps_cons, Option.bind_some, wipe, Fl.val, K.opt_some, W.dat, isTy, isNo, List.map_cons, List.map_nil, List.replicate, List.append_nil, List.cons_append, List.nil_append, List.length_cons, List.length_nil, List.set_cons_zero, List.set_cons_succ, Option.map_some, Option.map_none, if_true, if_false, Bool.false_eq_true, Bool.not_true, Bool.not_false, reduceIte, b_len_t, b_len_l, b_lst_t, b_lst_l, b_tup_l, b_tup_t, b_int_i, b_int_b, zip_t, Nat.reduceAdd, Nat.reduceLT, ev_ext]
  refine (w_isc h he hc (by decide +kernel)).mpr ?_
  try simp only [exs, ex_asg, ex_asgs, ex_asgt, ex_put, ex_ex, ex_ite, ex_for, ex_while, ex_ret, ex_retN, ex_pass, ex_rai, ex_try, ev, evs, evk, evo, evc, evi, wp_bnd, wp_pur, wp_stop, wp_rai, wp_some, wp_none, wp_rd, wp_rds_nil, wp_rds, wp_bool, wp_ite, lv_d, slot_z, slot_s, it_l, it_t, bp_v, bp_t, bps_nil, bps_cons, Option.bind_some, wipe, Fl.val, K.opt_some, W.dat, isTy, isNo, List.map_cons, List.map_nil, List.replicate, List.append_nil, List.cons_append, List.nil_append, List.length_cons, List.length_nil, List.set_cons_zero, List.set_cons_succ, Option.map_some, Option.map_none, if_true, if_false, Bool.false_eq_true, Bool.not_true, Bool.not_false, reduceIte, b_len_t, b_len_l, b_lst_t, b_lst_l, b_tup_l, b_tup_t, b_int_i, b_int_b, zip_t, Nat.reduceAdd, Nat.reduceLT, ev_ext]
  refine (w_isc h he hc (by decide +kernel)).mpr ?_
  try simp only [exs, ex_asg, ex_asgs, ex_asgt, ex_put, ex_ex, ex_ite, ex_for, ex_while, ex_ret, ex_retN, ex_pass, ex_rai, ex_try, ev, evs, evk, evo, evc, evi, wp_bnd, wp_pur, wp_stop, wp_rai, wp_some, wp_none, wp_rd, wp_rds_nil, wp_rds, wp_bool, wp_ite, lv_d, slot_z, slot_s, it_l, it_t, bp_v, bp_t, bps_nil, bps_cons, Option.bind_some, wipe, Fl.val, K.opt_some, W.dat, isTy, isNo, List.map_cons, List.map_nil, List.replicate, List.append_nil, List.cons_append, List.nil_append, List.length_cons, List.length_nil, List.set_cons_zero, List.set_cons_succ, Option.map_some, Option.map_none, if_true, if_false, Bool.false_eq_true, Bool.not_true, Bool.not_false, reduceIte, b_len_t, b_len_l, b_lst_t, b_lst_l, b_tup_l, b_tup_t, b_int_i, b_int_b, zip_t, Nat.reduceAdd, Nat.reduceLT, ev_ext, wl3F]
  rw [op_add_l (by simp only [List.length_cons, List.length_nil]; decide)]
  try simp only [exs, ex_asg, ex_asgs, ex_asgt, ex_put, ex_ex, ex_ite, ex_for, ex_while, ex_ret, ex_retN, ex_pass, ex_rai, ex_try, ev, evs, evk, evo, evc, evi, wp_bnd, wp_pur, wp_stop, wp_rai, wp_some, wp_none, wp_rd, wp_rds_nil, wp_rds, wp_bool, wp_ite, lv_d, slot_z, slot_s, it_l, it_t, bp_v, bp_t, bps_nil, bps_cons, Option.bind_some, wipe, Fl.val, K.opt_some, W.dat, isTy, isNo, List.map_cons, List.map_nil, List.replicate, List.append_nil, List.cons_append, List.nil_append, List.length_cons, List.length_nil, List.set_cons_zero, List.set_cons_succ, Option.map_some, Option.map_none, if_true, if_false, Bool.false_eq_true, Bool.not_true, Bool.not_false, reduceIte, b_len_t, b_len_l, b_lst_t, b_lst_l, b_tup_l, b_tup_t, b_int_i, b_int_b, zip_t, Nat.reduceAdd, Nat.reduceLT, ev_ext]
  refine (w_isc h he hc (by decide +kernel)).mpr ?_
  try simp only [exs, ex_asg, ex_asgs, ex_asgt, ex_put, ex_ex, ex_ite, ex_for, ex_while, ex_ret, ex_retN, ex_pass, ex_rai, ex_try, ev, evs, evk, evo, evc, evi, wp_bnd, wp_pur, wp_stop, wp_rai, wp_some, wp_none, wp_rd, wp_rds_nil, wp_rds, wp_bool, wp_ite, lv_d, slot_z, slot_s, it_l, it_t, bp_v, bp_t, bps_nil, bps_cons, Option.bind_some, wipe, Fl.val, K.opt_some, W.dat, isTy, isNo, List.map_cons, List.map_nil, List.replicate, List.append_nil, List.cons_append, List.nil_append, List.length_cons, List.length_nil, List.set_cons_zero, List.set_cons_succ, Option.map_some, Option.map_none, if_true, if_false, Bool.false_eq_true, Bool.not_true, Bool.not_false, reduceIte, b_len_t, b_len_l, b_lst_t, b_lst_l, b_tup_l, b_tup_t, b_int_i, b_int_b, zip_t, Nat.reduceAdd, Nat.reduceLT, ev_ext]
  refine (w_isc h he hc (by decide +kernel)).mpr ?_
  try simp only [exs, ex_asg, ex_asgs, ex_asgt, ex_put, ex_ex, ex_ite, ex_for, ex_while, ex_ret, ex_retN, ex_pass, ex_rai, ex_try, ev, evs, evk, evo, evc, evi, wp_bnd, wp_pur, wp_stop, wp_rai, wp_some, wp_none, wp_rd, wp_rds_nil, wp_rds, wp_bool, wp_ite, lv_d, slot_z, slot_s, it_l, it_t, bp_v, bp_t, bps_nil, bps_cons, Option.bind_some, wipe, Fl.val, K.opt_some, W.dat, isTy, isNo, List.map_cons, List.map_nil, List.replicate, List.append_nil, List.cons_append, List.nil_append, List.length_cons, List.length_nil, List.set_cons_zero, List.set_cons_succ, Option.map_some, Option.map_none, if_true, if_false, Bool.false_eq_true, Bool.not_true, Bool.not_false, reduceIte, b_len_t, b_len_l, b_lst_t, b_lst_l, b_tup_l, b_tup_t, b_int_i, b_int_b, zip_t, Nat.reduceAdd, Nat.reduceLT, ev_ext]
  refine (w_isc h he hc (by decide +kernel)).mpr ?_
  try simp only [exs, ex_asg, ex_asgs, ex_asgt, ex_put, ex_ex, ex_ite, ex_for, ex_while, ex_ret, ex_retN, ex_pass, ex_rai, ex_try, ev, evs, evk, evo, evc, evi, wp_bnd, wp_pur, wp_stop, wp_rai, wp_some, wp_none, wp_rd, wp_rds_nil, wp_rds, wp_bool, wp_ite, lv_d, slot_z, slot_s, it_l, it_t, bp_v, bp_t, bps_nil, bps_cons, Option.bind_some, wipe, Fl.val, K.opt_some, W.dat, isTy, isNo, List.map_cons, List.map_nil, List.replicate, List.append_nil, List.cons_append, List.nil_append, List.length_cons, List.length_nil, List.set_cons_zero, List.set_cons_succ, Option.map_some, Option.map_none, if_true, if_false, Bool.false_eq_true, Bool.not_true, Bool.not_false, reduceIte, b_len_t, b_len_l, b_lst_t, b_lst_l, b_tup_l, b_tup_t, b_int_i, b_int_b, zip_t, Nat.reduceAdd, Nat.reduceLT, ev_ext, wl3F]
  rw [op_add_l (by simp only [List.length_cons, List.length_nil]; decide)]
  try simp only [exs, ex_asg, ex_asgs, ex_asgt, ex_put, ex_ex, ex_ite, ex_for, ex_while, ex_ret, ex_retN, ex_pass, ex_rai, ex_try, ev, evs, evk, evo, evc, evi, wp_bnd, wp_pur, wp_stop, wp_rai, wp_some, wp_none, wp_rd, wp_rds_nil, wp_rds, wp_bool, wp_ite, lv_d, slot_z, slot_s, it_l, it_t, bp_v, bp_t, bps_nil, bps_cons, Option.bind_some, wipe, Fl.val, K.opt_some, W.dat, isTy, isNo, List.map_cons, List.map_nil, List.replicate, List.append_nil, List.cons_append, List.nil_append, List.length_cons, List.length_nil, List.set_cons_zero, List.set_cons_succ, Option.map_some, Option.map_none, if_true, if_false, Bool.false_eq_true, Bool.not_true, Bool.not_false, reduceIte, b_len_t, b_len_l, b_lst_t, b_lst_l, b_tup_l, b_tup_t, b_int_i, b_int_b, zip_t, Nat.reduceAdd, Nat.reduceLT, ev_ext]
  refine (w_isc h he hc (by decide +kernel)).mpr ?_
  try simp only [exs, ex_asg, ex_asgs, ex_asgt, ex_put, ex_ex, ex_ite, ex_for, ex_while, ex_ret, ex_retN, ex_pass, ex_rai, ex_try, ev, evs, evk, evo, evc, evi, wp_bnd, wp_pur, wp_stop, wp_rai, wp_some, wp_none, wp_rd, wp_rds_nil, wp_rds, wp_bool, wp_ite, lv_d, slot_z, slot_s, it_l, it_t, bp_v, bp_t, bps_nil, bps_cons, Option.bind_some, wipe, Fl.val, K.opt_some, W.dat, isTy, isNo, List.map_cons, List.map_nil, List.replicate, List.append_nil, List.cons_append, List.nil_append, List.length_cons, List.length_nil, List.set_cons_zero, List.set_cons_succ, Option.map_some, Option.map_none, if_true, if_false, Bool.false_eq_true, Bool.not_true, Bool.not_false, reduceIte, b_len_t, b_len_l, b_lst_t, b_lst_l, b_tup_l, b_tup_t, b_int_i, b_int_b, zip_t, Nat.reduceAdd, Nat.reduceLT, ev_ext]
  refine (w_isc h he hc (by decide +kernel)).mpr ?_
  try simp only [exs, ex_asg, ex_asgs, ex_asgt, ex_put, ex_ex, ex_ite, ex_for, ex_while, ex_ret, ex_retN, ex_pass, ex_rai, ex_try, ev, evs, evk, evo, evc, evi, wp_bnd, wp_pur, wp_stop, wp_rai, wp_some, wp_none, wp_rd, wp_rds_nil, wp_rds, wp_bool, wp_ite, lv_d, slot_z, slot_s, it_l, it_t, bp_v, bp_t, bps_nil, bps_cons, Option.bind_some, wipe, Fl.val, K.opt_some, W.dat, isTy, isNo, List.map_cons, List.map_nil, List.replicate, List.append_nil, List.cons_append, List.nil_append, List.length_cons, List.length_nil, List.set_cons_zero, List.set_cons_succ, Option.map_some, Option.map_none, if_true, if_false, Bool.false_eq_true, Bool.not_true, Bool.not_false, reduceIte, b_len_t, b_len_l, b_lst_t, b_lst_l, b_tup_l, b_tup_t, b_int_i, b_int_b, zip_t, Nat.reduceAdd, Nat.reduceLT, ev_ext]
  refine (w_isc h he hc (by decide +kernel)).mpr ?_
  try simp only [exs, ex_asg, ex_asgs, ex_asgt, ex_put, ex_ex, ex_ite, ex_for, ex_while, ex_ret, ex_retN, ex_pass, ex_rai, ex_try, ev, evs, evk, evo, evc, evi, wp_bnd, wp_pur, wp_stop, wp_rai, wp_some, wp_none, wp_rd, wp_rds_nil, wp_rds, wp_bool, wp_ite, lv_d, slot_z, slot_s, it_l, it_t, bp_v, bp_t, bps_nil, bps_cons, Option.bind_some, wipe, Fl.val, K.opt_some, W.dat, isTy, isNo, List.map_cons, List.map_nil, List.replicate, List.append_nil, List.cons_append, List.nil_append, List.length_cons, List.length_nil, List.set_cons_zero, List.set_cons_succ, Option.map_some, Option.map_none, if_true, if_false, Bool.false_eq_true, Bool.not_true, Bool.not_false, reduceIte, b_len_t, b_len_l, b_lst_t, b_lst_l, b_tup_l, b_tup_t, b_int_i, b_int_b, zip_t, Nat.reduceAdd, Nat.reduceLT, ev_ext, wl3F]
  rw [op_add_l (by simp only [List.length_cons, List.length_nil]; decide)]
  try simp only [exs, ex_asg, ex_asgs, ex_asgt, ex_put, ex_ex, ex_ite, ex_for, ex_while, ex_ret, ex_retN, ex_pass, ex_rai, ex_try, ev, evs, evk, evo, evc, evi, wp_bnd, wp_pur, wp_stop, wp_rai, wp_some, wp_none, wp_rd, wp_rds_nil, wp_rds, wp_bool, wp_ite, lv_d, slot_z, slot_s, it_l, it_t, bp_v, bp_t, bps_nil, bps_cons, Option.bind_some, wipe, Fl.val, K.opt_some, W.dat, isTy, isNo, List.map_cons, List.map_nil, List.replicate, List.append_nil, List.cons_append, List.nil_append, List.length_cons, List.length_nil, List.set_cons_zero, List.set_cons_succ, Option.map_some, Option.map_none, if_true, if_false, Bool.false_eq_true, Bool.not_true, Bool.not_false, reduceIte, b_len_t, b_len_l, b_lst_t, b_lst_l, b_tup_l, b_tup_t, b_int_i, b_int_b, zip_t, Nat.reduceAdd, Nat.reduceLT, ev_ext]
  refine (w_isc h he hc (by decide +kernel)).mpr ?_
  try simp only [exs, ex_asg, ex_asgs, ex_asgt, ex_put, ex_ex, ex_ite, ex_for, ex_while, ex_ret, ex_retN, ex_pass, ex_rai, ex_try, ev, evs, evk, evo, evc, evi, wp_bnd, wp_pur, wp_stop, wp_rai, wp_some, wp_none, wp_rd, wp_rds_nil, wp_rds, wp_bool, wp_ite, lv_d, slot_z, slot_s, it_l, it_t, bp_v, bp_t, bps_nil, bps_cons, Option.bind_some, wipe, Fl.val, K.opt_some, W.dat, isTy, isNo, List.map_cons, List.map_nil, List.replicate, List.append_nil, List.cons_append, List.nil_append, List.length_cons, List.length_nil, List.set_cons_zero, List.set_cons_succ, Option.map_some, Option.map_none, if_true, if_false, Bool.false_eq_true, Bool.not_true, Bool.not_false, reduceIte, b_len_t, b_len_l, b_lst_t, b_lst_l, b_tup_l, b_tup_t, b_int_i, b_int_b, zip_t, Nat.reduceAdd, Nat.reduceLT, ev_ext, wl1E]
  rw [op_add_l (by simp only [List.length_cons, List.length_nil]; decide)]
  try simp only [exs, ex_asg, ex_asgs, ex_asgt, ex_put, ex_ex, ex_ite, ex_for, ex_while, ex_ret, ex_retN, ex_pass, ex_rai, ex_try, ev, evs, evk, evo, evc, evi, wp_bnd, wp_pur, wp_stop, wp_rai, wp_some, wp_none, wp_rd, wp_rds_nil, wp_rds, wp_bool, wp_ite, lv_d, slot_z, slot_s, it_l, it_t, bp_v, bp_t, bps_nil, bps_cons, Option.bind_some, wipe, Fl.val, K.opt_some, W.dat, isTy, isNo, List.map_cons, List.map_nil, List.replicate, List.append_nil, List.cons_append, List.nil_append, List.length_cons, List.length_nil, List.set_cons_zero, List.set_cons_succ, Option.map_some, Option.map_none, if_true, if_false, Bool.false_eq_true, Bool.not_true, Bool.not_false, reduceIte, b_len_t, b_len_l, b_lst_t, b_lst_l, b_tup_l, b_tup_t, b_int_i, b_int_b, zip_t, Nat.reduceAdd, Nat.reduceLT]
  simp only [one]
  exact ⟨rfl, by simp⟩
end
section
theorem io_iE {i : Int} : intOf (.int i) = some i := rfl
theorem wp_slcE {M : Mem} {q : W → Mem → Prop} {r : Exc → Mem → Prop} {xs : List PyData} {l h : Option Int} : WP (slcW (.d (.list xs)) l h) M q r ↔ q (.d (.list (cut xs l h))) M := Iff.rfl
theorem wp_exE {x : K W} {M : Mem} {v : W} (h : WP x M (fun a _ => a = v) fun _ _ => False) : ∃ m, x M = .ok v m := by
  unfold WP at h
  cases hx : x M with
  | ok a m => rw [hx] at h; exact ⟨m, by rw [h]⟩
  | exc e m => rw [hx] at h; exact h.elim
  | no => rw [hx] at h; exact h.elim
theorem rng13 : rngW [.d (.int 13)] = K.pur (.items (((List.range 13).map fun k => PyData.int (k : Nat)).map W.d)) := by kernel_rfl
theorem cut6E (ns : List Int) : ∃ xs : List Int, cut (.int 0 :: ns.map PyData.int) none (some 6) = xs.map PyData.int := by
  refine ⟨cut (0 :: ns) none (some 6), ?_⟩
  show _ = ((((0 :: ns).drop _).take _).map PyData.int)
  rw [List.map_take, List.map_drop]
  show (((PyData.int 0 :: ns.map PyData.int).drop _).take _) = _
  unfold clamp
  simp [cut]
/-- the errors stand in m, listed at p -/
def ErrsAt (m : Mem) (p : Nat) (t : Str) (n : Int) : Prop := ∃ cs : List Nat, m[p]? = some (.lst (cs.map W.c)) ∧ ∀ (i : Nat) (o : ObD), (ob13 t n)[i]? = some o → ∃ c, cs[i]? = some c ∧ m[c]? = some (.obj o)
def eqL (i : Nat) : List PyData := (List.range 13).map fun p => .bool (decide (p = i))
theorem eq13 : ∀ i < 13, cmpD .ne (.list (whichL (cls13.getD i ""))) (.list (eqL i)) = some false := by decide +kernel
def str10 : List Str := ["ParcelError", "InvalidRule", "InvalidDiary", "InvalidDeed", "InvalidRow", "InvalidPart", "InvalidDay", "InvalidIndex", "InvalidBook", "Unlike", "NothingToUndo"]
theorem cls_in : ∀ i < 13, cls13.getD i "" ∈ errs14 := by decide +kernel
theorem cls_str : ∀ i < 10, str10.contains (cls13.getD i "") = true := by decide +kernel
theorem ob_cls (t : Str) (n : Int) : ∀ i < 13, ∃ o, (ob13 t n)[i]? = some o ∧ o.err = true ∧ o.cls = cls13.getD i "" ∧ (i < 10 → o.txt = some t) := by
  intro i hi
  match i, hi with
  | 0, _ | 1, _ | 2, _ | 3, _ | 4, _ | 5, _ | 6, _ | 7, _ | 8, _ | 9, _ => exact ⟨_, rfl, rfl, rfl, fun _ => rfl⟩
  | 10, _ | 11, _ | 12, _ => exact ⟨_, rfl, rfl, rfl, fun h => absurd h (by omega)⟩
theorem sub_errs {m : Mem} {p : Nat} {t : Str} {n : Int} (h : ErrsAt m p t n) {i : Nat} {o : ObD} (ho : (ob13 t n)[i]? = some o) : ∃ c, m[c]? = some (.obj o) ∧ ∀ {q : W → Mem → Prop} {r : Exc → Mem → Prop}, WP (subW (.c p) (.d (.int (i : Nat)))) m q r ↔ q (.c c) m := by
  obtain ⟨cs, h1, h2⟩ := h
  obtain ⟨c, e1, e2⟩ := h2 i o ho
  refine ⟨c, e2, fun {q r} => wp_sub_cell (v := .c c) h1 ?_⟩
  have hl : i < cs.length := (List.getElem?_eq_some_iff.mp e1).1
  unfold idx place
  rw [if_pos (by omega), if_pos (by simpa using hl)]
  simp [e1]
theorem eqcompE {O : Ora} {M : Mem} {i : Nat} {x0 x1 x2 x3 x5 x6 x7 : Option W} {q : W → Mem → Prop} {r : Exc → Mem → Prop} :
    WP (ev O [x0, x1, x2, x3, some (.d (.int (i : Nat))), x5, x6, x7] (.comp false [7] (.cmp .eq (.var 7) (.var 4)) (.v 7) (.rng (.cons (.con (.int 13)) .nil)) .no)) M q r ↔ q (.d (.list (eqL i))) M := by
  rw [ev]
  simp only [exs, ex_asg, ex_asgs, ex_asgt, ex_put, ex_ex, ex_ite, ex_for, ex_while, ex_ret, ex_retN, ex_pass, ex_rai, ex_try, ev, evs, evk, evo, evc, evi, wp_bnd, wp_pur, wp_stop, wp_rai, wp_some, wp_none, wp_rd, wp_rds_nil, wp_rds, wp_bool, wp_ite, lv_d, slot_z, slot_s, it_l, it_t, bp_v, bp_t, bps_nil, bps_cons, Option.bind_some, wipe, Fl.val, K.opt_some, W.dat, isTy, isNo, List.map_cons, List.map_nil, List.replicate, List.append_nil, List.cons_append, List.nil_append, List.length_cons, List.length_nil, List.set_cons_zero, List.set_cons_succ, Option.map_some, Option.map_none, if_true, if_false, Bool.false_eq_true, Bool.not_true, Bool.not_false, reduceIte, b_len_t, b_len_l, b_lst_t, b_lst_l, b_tup_l, b_tup_t, b_int_i, b_int_b, zip_t, Nat.reduceAdd, Nat.reduceLT, rng13]
  refine (wp_compA (fun x => match x with | .int j => .bool (decide (j = (i : Int))) | _ => .none) ?_ ?_).trans ?_
  · intro x hx
    obtain ⟨k, hk, rfl⟩ := List.mem_map.mp hx
    refine ⟨[x0, x1, x2, x3, some (.d (.int (i : Nat))), x5, x6, some (.d (.int (k : Nat)))], rfl, wp_to ?_⟩
    try simp only [exs, ex_asg, ex_asgs, ex_asgt, ex_put, ex_ex, ex_ite, ex_for, ex_while, ex_ret, ex_retN, ex_pass, ex_rai, ex_try, ev, evs, evk, evo, evc, evi, wp_bnd, wp_pur, wp_stop, wp_rai, wp_some, wp_none, wp_rd, wp_rds_nil, wp_rds, wp_bool, wp_ite, lv_d, slot_z, slot_s, it_l, it_t, bp_v, bp_t, bps_nil, bps_cons, Option.bind_some, wipe, Fl.val, K.opt_some, W.dat, isTy, isNo, List.map_cons, List.map_nil, List.replicate, List.append_nil, List.cons_append, List.nil_append, List.length_cons, List.length_nil, List.set_cons_zero, List.set_cons_succ, Option.map_some, Option.map_none, if_true, if_false, Bool.false_eq_true, Bool.not_true, Bool.not_false, reduceIte, b_len_t, b_len_l, b_lst_t, b_lst_l, b_tup_l, b_tup_t, b_int_i, b_int_b, zip_t, Nat.reduceAdd, Nat.reduceLT]
    rw [(cmp_eq (show fine 60 (.int (k : Nat)) = true from rfl) (show fine 60 (.int (i : Nat)) = true from rfl)).1]
    try simp only [exs, ex_asg, ex_asgs, ex_asgt, ex_put, ex_ex, ex_ite, ex_for, ex_while, ex_ret, ex_retN, ex_pass, ex_rai, ex_try, ev, evs, evk, evo, evc, evi, wp_bnd, wp_pur, wp_stop, wp_rai, wp_some, wp_none, wp_rd, wp_rds_nil, wp_rds, wp_bool, wp_ite, lv_d, slot_z, slot_s, it_l, it_t, bp_v, bp_t, bps_nil, bps_cons, Option.bind_some, wipe, Fl.val, K.opt_some, W.dat, isTy, isNo, List.map_cons, List.map_nil, List.replicate, List.append_nil, List.cons_append, List.nil_append, List.length_cons, List.length_nil, List.set_cons_zero, List.set_cons_succ, Option.map_some, Option.map_none, if_true, if_false, Bool.false_eq_true, Bool.not_true, Bool.not_false, reduceIte, b_len_t, b_len_l, b_lst_t, b_lst_l, b_tup_l, b_tup_t, b_int_i, b_int_b, zip_t, Nat.reduceAdd, Nat.reduceLT]
    exact ⟨by first | rfl | simp [PyData.eqv], by first | rfl | trivial⟩
  · simp; decide
  · have e : (List.map (fun x => match x with | .int j => PyData.bool (decide (j = (i : Int))) | _ => .none) (List.map (fun k : Nat => PyData.int (k : Nat)) (List.range 13))) = eqL i := by
      unfold eqL
      rw [List.map_map]
      refine List.map_congr_left fun p _ => ?_
      show PyData.bool (decide ((p : Int) = (i : Int))) = _
      rw [show decide ((p : Int) = (i : Int)) = decide (p = i) from decide_eq_decide.mpr (by omega)]
    rw [e]
    exact wp_lst (by unfold eqL; simp; decide)
theorem wt3E {M : Mem} {q : W → Mem → Prop} {r : Exc → Mem → Prop} {x0 x1 x2 : PyData} : WP (lstW false [.d x0, .d x1, .d x2]) M q r ↔ q (.d (.list [x0, x1, x2])) M := wp_lst (xs := [x0, x1, x2]) (show 3 ≤ top by decide)
def atB29 : Ss := (.cons (.ite (.cmp .ne (.call "_law_which" (.cons (.sub (.var 3) (.var 4)) .nil)) (.comp false [7] (.cmp .eq (.var 7) (.var 4)) (.v 7) (.rng (.cons (.con (.int 13)) .nil)) .no)) (.cons (.ret (.con (.bool false))) .nil) .nil) (.cons (.ite (.or_ (.not_ (.ext (.isc "ParcelError" ["ParcelError", "InvalidRule", "InvalidDiary", "InvalidDeed", "InvalidRow", "InvalidPart", "InvalidDay", "InvalidIndex", "InvalidBook", "Unlike", "NothingToUndo", "TooMany", "WrongLine", "Failed"] []) (.cons (.sub (.var 3) (.var 4)) .nil))) (.not_ (.ext (.isc "ValueError" ["ParcelError", "InvalidRule", "InvalidDiary", "InvalidDeed", "InvalidRow", "InvalidPart", "InvalidDay", "InvalidIndex", "InvalidBook", "Unlike", "NothingToUndo", "TooMany", "WrongLine", "Failed"] []) (.cons (.sub (.var 3) (.var 4)) .nil)))) (.cons (.ret (.con (.bool false))) .nil) .nil) (.cons (.ite (.and_ (.cmp .lt (.var 4) (.con (.int 10))) (.cmp .ne (.ext (.strx ["ParcelError", "InvalidRule", "InvalidDiary", "InvalidDeed", "InvalidRow", "InvalidPart", "InvalidDay", "InvalidIndex", "InvalidBook", "Unlike", "NothingToUndo"]) (.cons (.sub (.var 3) (.var 4)) .nil)) (.var 5))) (.cons (.ret (.con (.bool false))) .nil) .nil) .nil)))
section
variable {J : Info} (hw : J.fns "_law_which" = some d_which29)
include hw
theorem loop29 {m : Mem} {p : Nat} {t : Str} {n : Int} (hE : ErrsAt m p t n) (hf : fine 60 (.str t) = true) (b : Nat) (x0 x1 x2 x4 x7 : Option W) :
    WP (foldI (forB ⟨⟨b, J.glob, calln J 19⟩, J.att, J.sub⟩ (.v 4) atB29) (((List.range 13).map fun k => PyData.int (k : Nat)).map W.d) (.nx, [x0, x1, x2, some (.c p), x4, some (.d (.str t)), some (.d (.int n)), x7])) m
      (fun z m' => z.1 = true ∧ z.2.1 = .nx ∧ ErrsAt m' p t n ∧ ∃ x4 x7, z.2.2 = [x0, x1, x2, some (.c p), x4, some (.d (.str t)), some (.d (.int n)), x7]) (fun _ _ => False) := by
  refine wp_foldI (fun ws s m' => ∃ rest : List Nat, ws = (rest.map fun k => PyData.int (k : Nat)).map W.d ∧ (∀ k ∈ rest, k < 13) ∧ m' = m ∧ s.1 = .nx ∧ ∃ x4 x7, s.2 = [x0, x1, x2, some (.c p), x4, some (.d (.str t)), some (.d (.int n)), x7]) ?step ?fin _ _ _ ⟨List.range 13, rfl, fun k hk => List.mem_range.mp hk, rfl, rfl, _, _, rfl⟩
  case fin =>
    rintro ⟨fl, σ⟩ m' ⟨rest, _, _, rfl, e3, y4, y7, e5⟩
    simp only at e3 e5
    subst e3 e5
    exact ⟨rfl, rfl, hE, _, _, rfl⟩
  case step =>
    rintro w rest0 ⟨fl, σ⟩ m' ⟨rest, e1, hr, rfl, e3, y4, y7, e5⟩
    simp only at e3 e5
    subst e3 e5
    cases rest with
    | nil => cases e1
    | cons i rest =>
    obtain ⟨rfl, rfl⟩ : w = .d (.int (i : Nat)) ∧ rest0 = (rest.map fun k => PyData.int (k : Nat)).map W.d := by cases e1; exact ⟨rfl, rfl⟩
    have hi := hr i List.mem_cons_self
    obtain ⟨o, ho, he, hc, ht⟩ := ob_cls t n i hi
    obtain ⟨c, hoc, hsub⟩ := sub_errs hE ho
    have hm : o.cls ∈ errs14 := by rw [hc]; exact cls_in i hi
    have hm2 : errs14.contains o.cls = true := by simpa using hm
    have tail : ∃ rest_1 : List Nat, (rest.map fun k => PyData.int (k : Nat)).map W.d = (rest_1.map fun k => PyData.int (k : Nat)).map W.d ∧ ∀ k ∈ rest_1, k < 13 := ⟨rest, rfl, fun y hy => hr y (List.mem_cons_of_mem _ hy)⟩
    rw [wp_forB]
    try simp only [atB29, exs, ex_asg, ex_asgs, ex_asgt, ex_put, ex_ex, ex_ite, ex_for, ex_while, ex_ret, ex_retN, ex_pass, ex_rai, ex_try, ev, evs, evk, evo, evc, evi, wp_bnd, wp_pur, wp_stop, wp_rai, wp_some, wp_none, wp_rd, wp_rds_nil, wp_rds, wp_bool, wp_ite, lv_d, slot_z, slot_s, it_l, it_t, bp_v, bp_t, bps_nil, bps_cons, Option.bind_some, wipe, Fl.val, K.opt_some, W.dat, isTy, isNo, List.map_cons, List.map_nil, List.replicate, List.append_nil, List.cons_append, List.nil_append, List.length_cons, List.length_nil, List.set_cons_zero, List.set_cons_succ, Option.map_some, Option.map_none, if_true, if_false, Bool.false_eq_true, Bool.not_true, Bool.not_false, reduceIte, b_len_t, b_len_l, b_lst_t, b_lst_l, b_tup_l, b_tup_t, b_int_i, b_int_b, zip_t, Nat.reduceAdd, Nat.reduceLT, rng13, ev_ext]
    rw [hsub]
    try simp only [exs, ex_asg, ex_asgs, ex_asgt, ex_put, ex_ex, ex_ite, ex_for, ex_while, ex_ret, ex_retN, ex_pass, ex_rai, ex_try, ev, evs, evk, evo, evc, evi, wp_bnd, wp_pur, wp_stop, wp_rai, wp_some, wp_none, wp_rd, wp_rds_nil, wp_rds, wp_bool, wp_ite, lv_d, slot_z, slot_s, it_l, it_t, bp_v, bp_t, bps_nil, bps_cons, Option.bind_some, wipe, Fl.val, K.opt_some, W.dat, isTy, isNo, List.map_cons, List.map_nil, List.replicate, List.append_nil, List.cons_append, List.nil_append, List.length_cons, List.length_nil, List.set_cons_zero, List.set_cons_succ, Option.map_some, Option.map_none, if_true, if_false, Bool.false_eq_true, Bool.not_true, Bool.not_false, reduceIte, b_len_t, b_len_l, b_lst_t, b_lst_l, b_tup_l, b_tup_t, b_int_i, b_int_b, zip_t, Nat.reduceAdd, Nat.reduceLT]
    rw [wp_eq (w_which hw 18 _ hoc he hm)]
    try simp only [exs, ex_asg, ex_asgs, ex_asgt, ex_put, ex_ex, ex_ite, ex_for, ex_while, ex_ret, ex_retN, ex_pass, ex_rai, ex_try, ev, evs, evk, evo, evc, evi, wp_bnd, wp_pur, wp_stop, wp_rai, wp_some, wp_none, wp_rd, wp_rds_nil, wp_rds, wp_bool, wp_ite, lv_d, slot_z, slot_s, it_l, it_t, bp_v, bp_t, bps_nil, bps_cons, Option.bind_some, wipe, Fl.val, K.opt_some, W.dat, isTy, isNo, List.map_cons, List.map_nil, List.replicate, List.append_nil, List.cons_append, List.nil_append, List.length_cons, List.length_nil, List.set_cons_zero, List.set_cons_succ, Option.map_some, Option.map_none, if_true, if_false, Bool.false_eq_true, Bool.not_true, Bool.not_false, reduceIte, b_len_t, b_len_l, b_lst_t, b_lst_l, b_tup_l, b_tup_t, b_int_i, b_int_b, zip_t, Nat.reduceAdd, Nat.reduceLT]
    refine (wp_compA (fun x => match x with | .int j => .bool (decide (j = (i : Int))) | _ => .none) ?c1 ?c2).mpr ?c3
    case c1 =>
      intro x hx
      obtain ⟨k, hk, rfl⟩ := List.mem_map.mp hx
      refine ⟨[x0, x1, x2, some (.c p), some (.d (.int (i : Nat))), some (.d (.str t)), some (.d (.int n)), some (.d (.int (k : Nat)))], rfl, wp_to ?_⟩
      try simp only [exs, ex_asg, ex_asgs, ex_asgt, ex_put, ex_ex, ex_ite, ex_for, ex_while, ex_ret, ex_retN, ex_pass, ex_rai, ex_try, ev, evs, evk, evo, evc, evi, wp_bnd, wp_pur, wp_stop, wp_rai, wp_some, wp_none, wp_rd, wp_rds_nil, wp_rds, wp_bool, wp_ite, lv_d, slot_z, slot_s, it_l, it_t, bp_v, bp_t, bps_nil, bps_cons, Option.bind_some, wipe, Fl.val, K.opt_some, W.dat, isTy, isNo, List.map_cons, List.map_nil, List.replicate, List.append_nil, List.cons_append, List.nil_append, List.length_cons, List.length_nil, List.set_cons_zero, List.set_cons_succ, Option.map_some, Option.map_none, if_true, if_false, Bool.false_eq_true, Bool.not_true, Bool.not_false, reduceIte, b_len_t, b_len_l, b_lst_t, b_lst_l, b_tup_l, b_tup_t, b_int_i, b_int_b, zip_t, Nat.reduceAdd, Nat.reduceLT]
      rw [(cmp_eq (show fine 60 (.int (k : Nat)) = true from rfl) (show fine 60 (.int (i : Nat)) = true from rfl)).1]
      try simp only [exs, ex_asg, ex_asgs, ex_asgt, ex_put, ex_ex, ex_ite, ex_for, ex_while, ex_ret, ex_retN, ex_pass, ex_rai, ex_try, ev, evs, evk, evo, evc, evi, wp_bnd, wp_pur, wp_stop, wp_rai, wp_some, wp_none, wp_rd, wp_rds_nil, wp_rds, wp_bool, wp_ite, lv_d, slot_z, slot_s, it_l, it_t, bp_v, bp_t, bps_nil, bps_cons, Option.bind_some, wipe, Fl.val, K.opt_some, W.dat, isTy, isNo, List.map_cons, List.map_nil, List.replicate, List.append_nil, List.cons_append, List.nil_append, List.length_cons, List.length_nil, List.set_cons_zero, List.set_cons_succ, Option.map_some, Option.map_none, if_true, if_false, Bool.false_eq_true, Bool.not_true, Bool.not_false, reduceIte, b_len_t, b_len_l, b_lst_t, b_lst_l, b_tup_l, b_tup_t, b_int_i, b_int_b, zip_t, Nat.reduceAdd, Nat.reduceLT]
      exact ⟨by first | rfl | simp [PyData.eqv], by first | rfl | trivial⟩
    case c2 => simp; decide
    case c3 =>
      have e : (List.map (fun x => match x with | .int j => PyData.bool (decide (j = (i : Int))) | _ => .none) (List.map (fun k : Nat => PyData.int (k : Nat)) (List.range 13))) = eqL i := by
        unfold eqL
        rw [List.map_map]
        refine List.map_congr_left fun p _ => ?_
        show PyData.bool (decide ((p : Int) = (i : Int))) = _
        rw [show decide ((p : Int) = (i : Int)) = decide (p = i) from decide_eq_decide.mpr (by omega)]
      rw [e]
      refine (wp_lst (by unfold eqL; simp; decide)).mpr ?_
      try simp only [exs, ex_asg, ex_asgs, ex_asgt, ex_put, ex_ex, ex_ite, ex_for, ex_while, ex_ret, ex_retN, ex_pass, ex_rai, ex_try, ev, evs, evk, evo, evc, evi, wp_bnd, wp_pur, wp_stop, wp_rai, wp_some, wp_none, wp_rd, wp_rds_nil, wp_rds, wp_bool, wp_ite, lv_d, slot_z, slot_s, it_l, it_t, bp_v, bp_t, bps_nil, bps_cons, Option.bind_some, wipe, Fl.val, K.opt_some, W.dat, isTy, isNo, List.map_cons, List.map_nil, List.replicate, List.append_nil, List.cons_append, List.nil_append, List.length_cons, List.length_nil, List.set_cons_zero, List.set_cons_succ, Option.map_some, Option.map_none, if_true, if_false, Bool.false_eq_true, Bool.not_true, Bool.not_false, reduceIte, b_len_t, b_len_l, b_lst_t, b_lst_l, b_tup_l, b_tup_t, b_int_i, b_int_b, zip_t, Nat.reduceAdd, Nat.reduceLT]
      rw [hc, eq13 i hi]
      try simp only [exs, ex_asg, ex_asgs, ex_asgt, ex_put, ex_ex, ex_ite, ex_for, ex_while, ex_ret, ex_retN, ex_pass, ex_rai, ex_try, ev, evs, evk, evo, evc, evi, wp_bnd, wp_pur, wp_stop, wp_rai, wp_some, wp_none, wp_rd, wp_rds_nil, wp_rds, wp_bool, wp_ite, lv_d, slot_z, slot_s, it_l, it_t, bp_v, bp_t, bps_nil, bps_cons, Option.bind_some, wipe, Fl.val, K.opt_some, W.dat, isTy, isNo, List.map_cons, List.map_nil, List.replicate, List.append_nil, List.cons_append, List.nil_append, List.length_cons, List.length_nil, List.set_cons_zero, List.set_cons_succ, Option.map_some, Option.map_none, if_true, if_false, Bool.false_eq_true, Bool.not_true, Bool.not_false, reduceIte, b_len_t, b_len_l, b_lst_t, b_lst_l, b_tup_l, b_tup_t, b_int_i, b_int_b, zip_t, Nat.reduceAdd, Nat.reduceLT]
      rw [hsub]
      refine (w_isc hoc he hm (by decide +kernel)).mpr ?_
      rw [show List.contains [("ParcelError" : Str), "InvalidRule", "InvalidDiary", "InvalidDeed", "InvalidRow", "InvalidPart", "InvalidDay", "InvalidIndex", "InvalidBook", "Unlike", "NothingToUndo", "TooMany", "WrongLine", "Failed"] o.cls = true from hm2]
      try simp only [exs, ex_asg, ex_asgs, ex_asgt, ex_put, ex_ex, ex_ite, ex_for, ex_while, ex_ret, ex_retN, ex_pass, ex_rai, ex_try, ev, evs, evk, evo, evc, evi, wp_bnd, wp_pur, wp_stop, wp_rai, wp_some, wp_none, wp_rd, wp_rds_nil, wp_rds, wp_bool, wp_ite, lv_d, slot_z, slot_s, it_l, it_t, bp_v, bp_t, bps_nil, bps_cons, Option.bind_some, wipe, Fl.val, K.opt_some, W.dat, isTy, isNo, List.map_cons, List.map_nil, List.replicate, List.append_nil, List.cons_append, List.nil_append, List.length_cons, List.length_nil, List.set_cons_zero, List.set_cons_succ, Option.map_some, Option.map_none, if_true, if_false, Bool.false_eq_true, Bool.not_true, Bool.not_false, reduceIte, b_len_t, b_len_l, b_lst_t, b_lst_l, b_tup_l, b_tup_t, b_int_i, b_int_b, zip_t, Nat.reduceAdd, Nat.reduceLT]
      rw [hsub]
      refine (w_isc hoc he hm (by decide +kernel)).mpr ?_
      rw [show List.contains [("ParcelError" : Str), "InvalidRule", "InvalidDiary", "InvalidDeed", "InvalidRow", "InvalidPart", "InvalidDay", "InvalidIndex", "InvalidBook", "Unlike", "NothingToUndo", "TooMany", "WrongLine", "Failed"] o.cls = true from hm2]
      try simp only [exs, ex_asg, ex_asgs, ex_asgt, ex_put, ex_ex, ex_ite, ex_for, ex_while, ex_ret, ex_retN, ex_pass, ex_rai, ex_try, ev, evs, evk, evo, evc, evi, wp_bnd, wp_pur, wp_stop, wp_rai, wp_some, wp_none, wp_rd, wp_rds_nil, wp_rds, wp_bool, wp_ite, lv_d, slot_z, slot_s, it_l, it_t, bp_v, bp_t, bps_nil, bps_cons, Option.bind_some, wipe, Fl.val, K.opt_some, W.dat, isTy, isNo, List.map_cons, List.map_nil, List.replicate, List.append_nil, List.cons_append, List.nil_append, List.length_cons, List.length_nil, List.set_cons_zero, List.set_cons_succ, Option.map_some, Option.map_none, if_true, if_false, Bool.false_eq_true, Bool.not_true, Bool.not_false, reduceIte, b_len_t, b_len_l, b_lst_t, b_lst_l, b_tup_l, b_tup_t, b_int_i, b_int_b, zip_t, Nat.reduceAdd, Nat.reduceLT, cmp_int.1]
      by_cases h10 : i < 10
      · rw [show decide ((i : Int) < 10) = true from decide_eq_true (by omega)]
        try simp only [exs, ex_asg, ex_asgs, ex_asgt, ex_put, ex_ex, ex_ite, ex_for, ex_while, ex_ret, ex_retN, ex_pass, ex_rai, ex_try, ev, evs, evk, evo, evc, evi, wp_bnd, wp_pur, wp_stop, wp_rai, wp_some, wp_none, wp_rd, wp_rds_nil, wp_rds, wp_bool, wp_ite, lv_d, slot_z, slot_s, it_l, it_t, bp_v, bp_t, bps_nil, bps_cons, Option.bind_some, wipe, Fl.val, K.opt_some, W.dat, isTy, isNo, List.map_cons, List.map_nil, List.replicate, List.append_nil, List.cons_append, List.nil_append, List.length_cons, List.length_nil, List.set_cons_zero, List.set_cons_succ, Option.map_some, Option.map_none, if_true, if_false, Bool.false_eq_true, Bool.not_true, Bool.not_false, reduceIte, b_len_t, b_len_l, b_lst_t, b_lst_l, b_tup_l, b_tup_t, b_int_i, b_int_b, zip_t, Nat.reduceAdd, Nat.reduceLT]
        rw [hsub]
        refine (w_strx hoc (by rw [he, hc]; exact cls_str i h10) (ht h10)).mpr ?_
        try simp only [exs, ex_asg, ex_asgs, ex_asgt, ex_put, ex_ex, ex_ite, ex_for, ex_while, ex_ret, ex_retN, ex_pass, ex_rai, ex_try, ev, evs, evk, evo, evc, evi, wp_bnd, wp_pur, wp_stop, wp_rai, wp_some, wp_none, wp_rd, wp_rds_nil, wp_rds, wp_bool, wp_ite, lv_d, slot_z, slot_s, it_l, it_t, bp_v, bp_t, bps_nil, bps_cons, Option.bind_some, wipe, Fl.val, K.opt_some, W.dat, isTy, isNo, List.map_cons, List.map_nil, List.replicate, List.append_nil, List.cons_append, List.nil_append, List.length_cons, List.length_nil, List.set_cons_zero, List.set_cons_succ, Option.map_some, Option.map_none, if_true, if_false, Bool.false_eq_true, Bool.not_true, Bool.not_false, reduceIte, b_len_t, b_len_l, b_lst_t, b_lst_l, b_tup_l, b_tup_t, b_int_i, b_int_b, zip_t, Nat.reduceAdd, Nat.reduceLT]
        rw [(cmp_eq hf hf).2, eqv_str, beq_self_eq_true]
        try simp only [exs, ex_asg, ex_asgs, ex_asgt, ex_put, ex_ex, ex_ite, ex_for, ex_while, ex_ret, ex_retN, ex_pass, ex_rai, ex_try, ev, evs, evk, evo, evc, evi, wp_bnd, wp_pur, wp_stop, wp_rai, wp_some, wp_none, wp_rd, wp_rds_nil, wp_rds, wp_bool, wp_ite, lv_d, slot_z, slot_s, it_l, it_t, bp_v, bp_t, bps_nil, bps_cons, Option.bind_some, wipe, Fl.val, K.opt_some, W.dat, isTy, isNo, List.map_cons, List.map_nil, List.replicate, List.append_nil, List.cons_append, List.nil_append, List.length_cons, List.length_nil, List.set_cons_zero, List.set_cons_succ, Option.map_some, Option.map_none, if_true, if_false, Bool.false_eq_true, Bool.not_true, Bool.not_false, reduceIte, b_len_t, b_len_l, b_lst_t, b_lst_l, b_tup_l, b_tup_t, b_int_i, b_int_b, zip_t, Nat.reduceAdd, Nat.reduceLT]
        exact ⟨rest, rfl, fun y hy => hr y (List.mem_cons_of_mem _ hy), by first | trivial | rfl, by first | trivial | rfl, _, _, rfl⟩
      · rw [show decide ((i : Int) < 10) = false from decide_eq_false (by omega)]
        try simp only [exs, ex_asg, ex_asgs, ex_asgt, ex_put, ex_ex, ex_ite, ex_for, ex_while, ex_ret, ex_retN, ex_pass, ex_rai, ex_try, ev, evs, evk, evo, evc, evi, wp_bnd, wp_pur, wp_stop, wp_rai, wp_some, wp_none, wp_rd, wp_rds_nil, wp_rds, wp_bool, wp_ite, lv_d, slot_z, slot_s, it_l, it_t, bp_v, bp_t, bps_nil, bps_cons, Option.bind_some, wipe, Fl.val, K.opt_some, W.dat, isTy, isNo, List.map_cons, List.map_nil, List.replicate, List.append_nil, List.cons_append, List.nil_append, List.length_cons, List.length_nil, List.set_cons_zero, List.set_cons_succ, Option.map_some, Option.map_none, if_true, if_false, Bool.false_eq_true, Bool.not_true, Bool.not_false, reduceIte, b_len_t, b_len_l, b_lst_t, b_lst_l, b_tup_l, b_tup_t, b_int_i, b_int_b, zip_t, Nat.reduceAdd, Nat.reduceLT]
        exact ⟨rest, rfl, fun y hy => hr y (List.mem_cons_of_mem _ hy), by first | trivial | rfl, by first | trivial | rfl, _, _, rfl⟩
end
theorem law29 {J : Info} (D : Draws J) (hw : J.fns "_law_which" = some d_which29) (hl : J.fns "law" = some d_law29) (ns : List Int) (hn : ns.length ≤ 63) : ∃ M, calln J 20 "law" [.d (.list (ns.map .int))] [] = .ok (.d (.bool true)) M := by
  have t16 : top = 16777216 := rfl
  refine wp_exE ?_
  rw [wp_call (d := d_law29) hl rfl]
  simp only [d_law29, b_law29, exs, ex_asg, ex_asgs, ex_asgt, ex_put, ex_ex, ex_ite, ex_for, ex_while, ex_ret, ex_retN, ex_pass, ex_rai, ex_try, ev, evs, evk, evo, evc, evi, wp_bnd, wp_pur, wp_stop, wp_rai, wp_some, wp_none, wp_rd, wp_rds_nil, wp_rds, wp_bool, wp_ite, lv_d, slot_z, slot_s, it_l, it_t, bp_v, bp_t, bps_nil, bps_cons, Option.bind_some, wipe, Fl.val, K.opt_some, W.dat, isTy, isNo, List.map_cons, List.map_nil, List.replicate, List.append_nil, List.cons_append, List.nil_append, List.length_cons, List.length_nil, List.set_cons_zero, List.set_cons_succ, Option.map_some, Option.map_none, if_true, if_false, Bool.false_eq_true, Bool.not_true, Bool.not_false, reduceIte, b_len_t, b_len_l, b_lst_t, b_lst_l, b_tup_l, b_tup_t, b_int_i, b_int_b, zip_t, Nat.reduceAdd, Nat.reduceLT, wl1E]
  rw [op_add_l (a := [.int 0]) (by simp; omega)]
  try simp only [exs, ex_asg, ex_asgs, ex_asgt, ex_put, ex_ex, ex_ite, ex_for, ex_while, ex_ret, ex_retN, ex_pass, ex_rai, ex_try, ev, evs, evk, evo, evc, evi, wp_bnd, wp_pur, wp_stop, wp_rai, wp_some, wp_none, wp_rd, wp_rds_nil, wp_rds, wp_bool, wp_ite, lv_d, slot_z, slot_s, it_l, it_t, bp_v, bp_t, bps_nil, bps_cons, Option.bind_some, wipe, Fl.val, K.opt_some, W.dat, isTy, isNo, List.map_cons, List.map_nil, List.replicate, List.append_nil, List.cons_append, List.nil_append, List.length_cons, List.length_nil, List.set_cons_zero, List.set_cons_succ, Option.map_some, Option.map_none, if_true, if_false, Bool.false_eq_true, Bool.not_true, Bool.not_false, reduceIte, b_len_t, b_len_l, b_lst_t, b_lst_l, b_tup_l, b_tup_t, b_int_i, b_int_b, zip_t, Nat.reduceAdd, Nat.reduceLT, io_iE, wp_slcE]
  obtain ⟨xs, hxs⟩ := cut6E ns
  rw [hxs]
  try simp only [exs, ex_asg, ex_asgs, ex_asgt, ex_put, ex_ex, ex_ite, ex_for, ex_while, ex_ret, ex_retN, ex_pass, ex_rai, ex_try, ev, evs, evk, evo, evc, evi, wp_bnd, wp_pur, wp_stop, wp_rai, wp_some, wp_none, wp_rd, wp_rds_nil, wp_rds, wp_bool, wp_ite, lv_d, slot_z, slot_s, it_l, it_t, bp_v, bp_t, bps_nil, bps_cons, Option.bind_some, wipe, Fl.val, K.opt_some, W.dat, isTy, isNo, List.map_cons, List.map_nil, List.replicate, List.append_nil, List.cons_append, List.nil_append, List.length_cons, List.length_nil, List.set_cons_zero, List.set_cons_succ, Option.map_some, Option.map_none, if_true, if_false, Bool.false_eq_true, Bool.not_true, Bool.not_false, reduceIte, b_len_t, b_len_l, b_lst_t, b_lst_l, b_tup_l, b_tup_t, b_int_i, b_int_b, zip_t, Nat.reduceAdd, Nat.reduceLT, foldK]
  refine wp_foldI (fun ws s M' => ∃ rest : List Int, ws = (rest.map PyData.int).map W.d ∧ s.1 = .nx ∧ ∃ v1 v2 v3 v4 v5 v6 v7, s.2 = [some (.d (.list (ns.map .int))), v1, v2, v3, v4, v5, v6, v7]) ?step ?fin _ _ _ ⟨xs, rfl, rfl, _, _, _, _, _, _, _, rfl⟩
  case fin =>
    rintro ⟨fl, σ⟩ M ⟨rest, e2, e3, v1, v2, v3, v4, v5, v6, v7, e4⟩
    simp only at e3 e4
    subst e3 e4
    try simp only [exs, ex_asg, ex_asgs, ex_asgt, ex_put, ex_ex, ex_ite, ex_for, ex_while, ex_ret, ex_retN, ex_pass, ex_rai, ex_try, ev, evs, evk, evo, evc, evi, wp_bnd, wp_pur, wp_stop, wp_rai, wp_some, wp_none, wp_rd, wp_rds_nil, wp_rds, wp_bool, wp_ite, lv_d, slot_z, slot_s, it_l, it_t, bp_v, bp_t, bps_nil, bps_cons, Option.bind_some, wipe, Fl.val, K.opt_some, W.dat, isTy, isNo, List.map_cons, List.map_nil, List.replicate, List.append_nil, List.cons_append, List.nil_append, List.length_cons, List.length_nil, List.set_cons_zero, List.set_cons_succ, Option.map_some, Option.map_none, if_true, if_false, Bool.false_eq_true, Bool.not_true, Bool.not_false, reduceIte, b_len_t, b_len_l, b_lst_t, b_lst_l, b_tup_l, b_tup_t, b_int_i, b_int_b, zip_t, Nat.reduceAdd, Nat.reduceLT]
  case step =>
    rintro w rest0 ⟨fl, σ⟩ M ⟨rest, e2, e3, v1, v2, v3, v4, v5, v6, v7, e4⟩
    simp only at e3 e4
    subst e3 e4
    cases rest with
    | nil => cases e2
    | cons c rest =>
    obtain ⟨rfl, rfl⟩ : w = .d (.int c) ∧ rest0 = (rest.map PyData.int).map W.d := by cases e2; exact ⟨rfl, rfl⟩
    rw [wp_forB]
    try simp only [exs, ex_asg, ex_asgs, ex_asgt, ex_put, ex_ex, ex_ite, ex_for, ex_while, ex_ret, ex_retN, ex_pass, ex_rai, ex_try, ev, evs, evk, evo, evc, evi, wp_bnd, wp_pur, wp_stop, wp_rai, wp_some, wp_none, wp_rd, wp_rds_nil, wp_rds, wp_bool, wp_ite, lv_d, slot_z, slot_s, it_l, it_t, bp_v, bp_t, bps_nil, bps_cons, Option.bind_some, wipe, Fl.val, K.opt_some, W.dat, isTy, isNo, List.map_cons, List.map_nil, List.replicate, List.append_nil, List.cons_append, List.nil_append, List.length_cons, List.length_nil, List.set_cons_zero, List.set_cons_succ, Option.map_some, Option.map_none, if_true, if_false, Bool.false_eq_true, Bool.not_true, Bool.not_false, reduceIte, b_len_t, b_len_l, b_lst_t, b_lst_l, b_tup_l, b_tup_t, b_int_i, b_int_b, zip_t, Nat.reduceAdd, Nat.reduceLT]
    refine w_nest D 18 M c 171 (by omega) fun na nb => ?_
    try simp only [exs, ex_asg, ex_asgs, ex_asgt, ex_put, ex_ex, ex_ite, ex_for, ex_while, ex_ret, ex_retN, ex_pass, ex_rai, ex_try, ev, evs, evk, evo, evc, evi, wp_bnd, wp_pur, wp_stop, wp_rai, wp_some, wp_none, wp_rd, wp_rds_nil, wp_rds, wp_bool, wp_ite, lv_d, slot_z, slot_s, it_l, it_t, bp_v, bp_t, bps_nil, bps_cons, Option.bind_some, wipe, Fl.val, K.opt_some, W.dat, isTy, isNo, List.map_cons, List.map_nil, List.replicate, List.append_nil, List.cons_append, List.nil_append, List.length_cons, List.length_nil, List.set_cons_zero, List.set_cons_succ, Option.map_some, Option.map_none, if_true, if_false, Bool.false_eq_true, Bool.not_true, Bool.not_false, reduceIte, b_len_t, b_len_l, b_lst_t, b_lst_l, b_tup_l, b_tup_t, b_int_i, b_int_b, zip_t, Nat.reduceAdd, Nat.reduceLT, wt3E]
    have hn0 : Nest (M ++ [.lst [.d (.int na), .d (.int nb)]]) M.length := ⟨na, nb, get_last⟩
    refine w_pick D 17 _ M.length [.str "", .str "a parcel", .str "nobody at the door"] ⟨by decide, by decide⟩ hn0 fun y1 M1 hy1 hn1 hm1 => ?_
    obtain ⟨t, rfl, hf⟩ : ∃ t, y1 = .str t ∧ fine 60 (.str t) = true := by
      simp only [List.mem_cons, List.not_mem_nil, or_false] at hy1
      rcases hy1 with rfl | rfl | rfl <;> exact ⟨_, rfl, by kernel_rfl⟩
    try simp only [exs, ex_asg, ex_asgs, ex_asgt, ex_put, ex_ex, ex_ite, ex_for, ex_while, ex_ret, ex_retN, ex_pass, ex_rai, ex_try, ev, evs, evk, evo, evc, evi, wp_bnd, wp_pur, wp_stop, wp_rai, wp_some, wp_none, wp_rd, wp_rds_nil, wp_rds, wp_bool, wp_ite, lv_d, slot_z, slot_s, it_l, it_t, bp_v, bp_t, bps_nil, bps_cons, Option.bind_some, wipe, Fl.val, K.opt_some, W.dat, isTy, isNo, List.map_cons, List.map_nil, List.replicate, List.append_nil, List.cons_append, List.nil_append, List.length_cons, List.length_nil, List.set_cons_zero, List.set_cons_succ, Option.map_some, Option.map_none, if_true, if_false, Bool.false_eq_true, Bool.not_true, Bool.not_false, reduceIte, b_len_t, b_len_l, b_lst_t, b_lst_l, b_tup_l, b_tup_t, b_int_i, b_int_b, zip_t, Nat.reduceAdd, Nat.reduceLT]
    refine w_egg D 18 M1 M.length 400 ⟨by omega, by omega⟩ hn1 fun n M2 h0 h1 hn2 hm2 => ?_
    try simp only [exs, ex_asg, ex_asgs, ex_asgt, ex_put, ex_ex, ex_ite, ex_for, ex_while, ex_ret, ex_retN, ex_pass, ex_rai, ex_try, ev, evs, evk, evo, evc, evi, wp_bnd, wp_pur, wp_stop, wp_rai, wp_some, wp_none, wp_rd, wp_rds_nil, wp_rds, wp_bool, wp_ite, lv_d, slot_z, slot_s, it_l, it_t, bp_v, bp_t, bps_nil, bps_cons, Option.bind_some, wipe, Fl.val, K.opt_some, W.dat, isTy, isNo, List.map_cons, List.map_nil, List.replicate, List.append_nil, List.cons_append, List.nil_append, List.length_cons, List.length_nil, List.set_cons_zero, List.set_cons_succ, Option.map_some, Option.map_none, if_true, if_false, Bool.false_eq_true, Bool.not_true, Bool.not_false, reduceIte, b_len_t, b_len_l, b_lst_t, b_lst_l, b_tup_l, b_tup_t, b_int_i, b_int_b, zip_t, Nat.reduceAdd, Nat.reduceLT, ev_ext, w_mkx, w_mkf]
    refine (w_lstT (by simp only [List.length_cons, List.length_nil]; decide)).mpr ?_
    try simp only [exs, ex_asg, ex_asgs, ex_asgt, ex_put, ex_ex, ex_ite, ex_for, ex_while, ex_ret, ex_retN, ex_pass, ex_rai, ex_try, ev, evs, evk, evo, evc, evi, wp_bnd, wp_pur, wp_stop, wp_rai, wp_some, wp_none, wp_rd, wp_rds_nil, wp_rds, wp_bool, wp_ite, lv_d, slot_z, slot_s, it_l, it_t, bp_v, bp_t, bps_nil, bps_cons, Option.bind_some, wipe, Fl.val, K.opt_some, W.dat, isTy, isNo, List.map_cons, List.map_nil, List.replicate, List.append_nil, List.cons_append, List.nil_append, List.length_cons, List.length_nil, List.set_cons_zero, List.set_cons_succ, Option.map_some, Option.map_none, if_true, if_false, Bool.false_eq_true, Bool.not_true, Bool.not_false, reduceIte, b_len_t, b_len_l, b_lst_t, b_lst_l, b_tup_l, b_tup_t, b_int_i, b_int_b, zip_t, Nat.reduceAdd, Nat.reduceLT, ev_ext, w_mkx, w_mkf]
    refine (w_lstT (by simp only [List.length_cons, List.length_nil]; decide)).mpr ?_
    try simp only [exs, ex_asg, ex_asgs, ex_asgt, ex_put, ex_ex, ex_ite, ex_for, ex_while, ex_ret, ex_retN, ex_pass, ex_rai, ex_try, ev, evs, evk, evo, evc, evi, wp_bnd, wp_pur, wp_stop, wp_rai, wp_some, wp_none, wp_rd, wp_rds_nil, wp_rds, wp_bool, wp_ite, lv_d, slot_z, slot_s, it_l, it_t, bp_v, bp_t, bps_nil, bps_cons, Option.bind_some, wipe, Fl.val, K.opt_some, W.dat, isTy, isNo, List.map_cons, List.map_nil, List.replicate, List.append_nil, List.cons_append, List.nil_append, List.length_cons, List.length_nil, List.set_cons_zero, List.set_cons_succ, Option.map_some, Option.map_none, if_true, if_false, Bool.false_eq_true, Bool.not_true, Bool.not_false, reduceIte, b_len_t, b_len_l, b_lst_t, b_lst_l, b_tup_l, b_tup_t, b_int_i, b_int_b, zip_t, Nat.reduceAdd, Nat.reduceLT, ev_ext, w_mkx, w_mkf]
    refine (w_cat (ws := [_, _, _, _, _]) (us := [_, _, _, _]) (by simp [List.getElem?_append]; exact ⟨rfl, rfl, rfl, rfl, rfl⟩) (by simp [List.getElem?_append]; exact ⟨rfl, rfl, rfl, rfl⟩) (by simp only [List.length_cons, List.length_nil]; decide)).mpr ?_
    refine (w_lstT (by simp only [List.length_cons, List.length_nil]; decide)).mpr ?_
    try simp only [exs, ex_asg, ex_asgs, ex_asgt, ex_put, ex_ex, ex_ite, ex_for, ex_while, ex_ret, ex_retN, ex_pass, ex_rai, ex_try, ev, evs, evk, evo, evc, evi, wp_bnd, wp_pur, wp_stop, wp_rai, wp_some, wp_none, wp_rd, wp_rds_nil, wp_rds, wp_bool, wp_ite, lv_d, slot_z, slot_s, it_l, it_t, bp_v, bp_t, bps_nil, bps_cons, Option.bind_some, wipe, Fl.val, K.opt_some, W.dat, isTy, isNo, List.map_cons, List.map_nil, List.replicate, List.append_nil, List.cons_append, List.nil_append, List.length_cons, List.length_nil, List.set_cons_zero, List.set_cons_succ, Option.map_some, Option.map_none, if_true, if_false, Bool.false_eq_true, Bool.not_true, Bool.not_false, reduceIte, b_len_t, b_len_l, b_lst_t, b_lst_l, b_tup_l, b_tup_t, b_int_i, b_int_b, zip_t, Nat.reduceAdd, Nat.reduceLT, ev_ext, w_mkx, w_mkf]
    refine (w_cat (ws := [_, _, _, _, _, _, _, _, _]) (us := [_, _, _, _]) (by simp [List.getElem?_append]; exact ⟨rfl, rfl, rfl, rfl, rfl, rfl, rfl, rfl, rfl⟩) (by simp [List.getElem?_append]; exact ⟨rfl, rfl, rfl, rfl⟩) (by simp only [List.length_cons, List.length_nil]; decide)).mpr ?_
    try simp only [exs, ex_asg, ex_asgs, ex_asgt, ex_put, ex_ex, ex_ite, ex_for, ex_while, ex_ret, ex_retN, ex_pass, ex_rai, ex_try, ev, evs, evk, evo, evc, evi, wp_bnd, wp_pur, wp_stop, wp_rai, wp_some, wp_none, wp_rd, wp_rds_nil, wp_rds, wp_bool, wp_ite, lv_d, slot_z, slot_s, it_l, it_t, bp_v, bp_t, bps_nil, bps_cons, Option.bind_some, wipe, Fl.val, K.opt_some, W.dat, isTy, isNo, List.map_cons, List.map_nil, List.replicate, List.append_nil, List.cons_append, List.nil_append, List.length_cons, List.length_nil, List.set_cons_zero, List.set_cons_succ, Option.map_some, Option.map_none, if_true, if_false, Bool.false_eq_true, Bool.not_true, Bool.not_false, reduceIte, b_len_t, b_len_l, b_lst_t, b_lst_l, b_tup_l, b_tup_t, b_int_i, b_int_b, zip_t, Nat.reduceAdd, Nat.reduceLT, rng13, foldK]
    refine wp_mono (loop29 hw (t := t) (n := n) ?hE hf 0 _ _ _ _ _) (fun z m hz => ?_) fun _ _ z => z.elim
    case hE =>
      refine ⟨[M2.length, M2.length + 1, M2.length + 2, M2.length + 3, M2.length + 4, M2.length + 6, M2.length + 7, M2.length + 8, M2.length + 9, M2.length + 12, M2.length + 13, M2.length + 14, M2.length + 15], ?_, fun i o ho => ?_⟩
      · simp [List.getElem?_append]
      · match i, ho with
        | 0, ho | 1, ho | 2, ho | 3, ho | 4, ho | 5, ho | 6, ho | 7, ho | 8, ho | 9, ho | 10, ho | 11, ho | 12, ho => cases ho; exact ⟨_, rfl, by simp [List.getElem?_append]⟩
        | i + 13, ho => cases ho
    obtain ⟨bb, fl, σ⟩ := z
    obtain ⟨q1, q2, hE3, w4, w7, q5⟩ := hz
    simp only at q1 q2 q5
    subst q1 q2 q5
    try simp only [exs, ex_asg, ex_asgs, ex_asgt, ex_put, ex_ex, ex_ite, ex_for, ex_while, ex_ret, ex_retN, ex_pass, ex_rai, ex_try, ev, evs, evk, evo, evc, evi, wp_bnd, wp_pur, wp_stop, wp_rai, wp_some, wp_none, wp_rd, wp_rds_nil, wp_rds, wp_bool, wp_ite, lv_d, slot_z, slot_s, it_l, it_t, bp_v, bp_t, bps_nil, bps_cons, Option.bind_some, wipe, Fl.val, K.opt_some, W.dat, isTy, isNo, List.map_cons, List.map_nil, List.replicate, List.append_nil, List.cons_append, List.nil_append, List.length_cons, List.length_nil, List.set_cons_zero, List.set_cons_succ, Option.map_some, Option.map_none, if_true, if_false, Bool.false_eq_true, Bool.not_true, Bool.not_false, reduceIte, b_len_t, b_len_l, b_lst_t, b_lst_l, b_tup_l, b_tup_t, b_int_i, b_int_b, zip_t, Nat.reduceAdd, Nat.reduceLT, ev_ext]
    obtain ⟨c10, o10, s10⟩ := sub_errs hE3 (i := 10) (o := exo2 "TooMany" "limit" n) rfl
    obtain ⟨c11, o11, s11⟩ := sub_errs hE3 (i := 11) (o := exo2 "WrongLine" "line" n) rfl
    obtain ⟨c12, o12, s12⟩ := sub_errs hE3 (i := 12) (o := exo2 "Failed" "place" n) rfl
    refine s10.mpr ?_
    refine (w_att o10 ⟨rfl, rfl⟩ (x := .int n) rfl).mpr ?_
    try simp only [exs, ex_asg, ex_asgs, ex_asgt, ex_put, ex_ex, ex_ite, ex_for, ex_while, ex_ret, ex_retN, ex_pass, ex_rai, ex_try, ev, evs, evk, evo, evc, evi, wp_bnd, wp_pur, wp_stop, wp_rai, wp_some, wp_none, wp_rd, wp_rds_nil, wp_rds, wp_bool, wp_ite, lv_d, slot_z, slot_s, it_l, it_t, bp_v, bp_t, bps_nil, bps_cons, Option.bind_some, wipe, Fl.val, K.opt_some, W.dat, isTy, isNo, List.map_cons, List.map_nil, List.replicate, List.append_nil, List.cons_append, List.nil_append, List.length_cons, List.length_nil, List.set_cons_zero, List.set_cons_succ, Option.map_some, Option.map_none, if_true, if_false, Bool.false_eq_true, Bool.not_true, Bool.not_false, reduceIte, b_len_t, b_len_l, b_lst_t, b_lst_l, b_tup_l, b_tup_t, b_int_i, b_int_b, zip_t, Nat.reduceAdd, Nat.reduceLT]
    refine s11.mpr ?_
    refine (w_att o11 ⟨rfl, rfl⟩ (x := .int n) rfl).mpr ?_
    try simp only [exs, ex_asg, ex_asgs, ex_asgt, ex_put, ex_ex, ex_ite, ex_for, ex_while, ex_ret, ex_retN, ex_pass, ex_rai, ex_try, ev, evs, evk, evo, evc, evi, wp_bnd, wp_pur, wp_stop, wp_rai, wp_some, wp_none, wp_rd, wp_rds_nil, wp_rds, wp_bool, wp_ite, lv_d, slot_z, slot_s, it_l, it_t, bp_v, bp_t, bps_nil, bps_cons, Option.bind_some, wipe, Fl.val, K.opt_some, W.dat, isTy, isNo, List.map_cons, List.map_nil, List.replicate, List.append_nil, List.cons_append, List.nil_append, List.length_cons, List.length_nil, List.set_cons_zero, List.set_cons_succ, Option.map_some, Option.map_none, if_true, if_false, Bool.false_eq_true, Bool.not_true, Bool.not_false, reduceIte, b_len_t, b_len_l, b_lst_t, b_lst_l, b_tup_l, b_tup_t, b_int_i, b_int_b, zip_t, Nat.reduceAdd, Nat.reduceLT]
    refine s12.mpr ?_
    refine (w_att o12 ⟨rfl, rfl⟩ (x := .int n) rfl).mpr ?_
    try simp only [exs, ex_asg, ex_asgs, ex_asgt, ex_put, ex_ex, ex_ite, ex_for, ex_while, ex_ret, ex_retN, ex_pass, ex_rai, ex_try, ev, evs, evk, evo, evc, evi, wp_bnd, wp_pur, wp_stop, wp_rai, wp_some, wp_none, wp_rd, wp_rds_nil, wp_rds, wp_bool, wp_ite, lv_d, slot_z, slot_s, it_l, it_t, bp_v, bp_t, bps_nil, bps_cons, Option.bind_some, wipe, Fl.val, K.opt_some, W.dat, isTy, isNo, List.map_cons, List.map_nil, List.replicate, List.append_nil, List.cons_append, List.nil_append, List.length_cons, List.length_nil, List.set_cons_zero, List.set_cons_succ, Option.map_some, Option.map_none, if_true, if_false, Bool.false_eq_true, Bool.not_true, Bool.not_false, reduceIte, b_len_t, b_len_l, b_lst_t, b_lst_l, b_tup_l, b_tup_t, b_int_i, b_int_b, zip_t, Nat.reduceAdd, Nat.reduceLT, wl3F, wl1E]
    rw [show opD .mul (.list [.int n]) (.int 3) = some (.list [.int n, .int n, .int n]) from rfl]
    try simp only [exs, ex_asg, ex_asgs, ex_asgt, ex_put, ex_ex, ex_ite, ex_for, ex_while, ex_ret, ex_retN, ex_pass, ex_rai, ex_try, ev, evs, evk, evo, evc, evi, wp_bnd, wp_pur, wp_stop, wp_rai, wp_some, wp_none, wp_rd, wp_rds_nil, wp_rds, wp_bool, wp_ite, lv_d, slot_z, slot_s, it_l, it_t, bp_v, bp_t, bps_nil, bps_cons, Option.bind_some, wipe, Fl.val, K.opt_some, W.dat, isTy, isNo, List.map_cons, List.map_nil, List.replicate, List.append_nil, List.cons_append, List.nil_append, List.length_cons, List.length_nil, List.set_cons_zero, List.set_cons_succ, Option.map_some, Option.map_none, if_true, if_false, Bool.false_eq_true, Bool.not_true, Bool.not_false, reduceIte, b_len_t, b_len_l, b_lst_t, b_lst_l, b_tup_l, b_tup_t, b_int_i, b_int_b, zip_t, Nat.reduceAdd, Nat.reduceLT]
    rw [(cmp_eq (show fine 60 (.list [.int n, .int n, .int n]) = true from rfl) (show fine 60 (.list [.int n, .int n, .int n]) = true from rfl)).2, show PyData.eqv (.list [.int n, .int n, .int n]) (.list [.int n, .int n, .int n]) = true from by simp [PyData.eqv, PyData.eqvAll]]
    try simp only [exs, ex_asg, ex_asgs, ex_asgt, ex_put, ex_ex, ex_ite, ex_for, ex_while, ex_ret, ex_retN, ex_pass, ex_rai, ex_try, ev, evs, evk, evo, evc, evi, wp_bnd, wp_pur, wp_stop, wp_rai, wp_some, wp_none, wp_rd, wp_rds_nil, wp_rds, wp_bool, wp_ite, lv_d, slot_z, slot_s, it_l, it_t, bp_v, bp_t, bps_nil, bps_cons, Option.bind_some, wipe, Fl.val, K.opt_some, W.dat, isTy, isNo, List.map_cons, List.map_nil, List.replicate, List.append_nil, List.cons_append, List.nil_append, List.length_cons, List.length_nil, List.set_cons_zero, List.set_cons_succ, Option.map_some, Option.map_none, if_true, if_false, Bool.false_eq_true, Bool.not_true, Bool.not_false, reduceIte, b_len_t, b_len_l, b_lst_t, b_lst_l, b_tup_l, b_tup_t, b_int_i, b_int_b, zip_t, Nat.reduceAdd, Nat.reduceLT, w_mkx]
    rw [wp_eq (w_which hw 18 _ (o := exo1 "ParcelError" t) get_last rfl (by show ("ParcelError" : Str) ∈ errs14; decide +kernel))]
    try simp only [exs, ex_asg, ex_asgs, ex_asgt, ex_put, ex_ex, ex_ite, ex_for, ex_while, ex_ret, ex_retN, ex_pass, ex_rai, ex_try, ev, evs, evk, evo, evc, evi, wp_bnd, wp_pur, wp_stop, wp_rai, wp_some, wp_none, wp_rd, wp_rds_nil, wp_rds, wp_bool, wp_ite, lv_d, slot_z, slot_s, it_l, it_t, bp_v, bp_t, bps_nil, bps_cons, Option.bind_some, wipe, Fl.val, K.opt_some, W.dat, isTy, isNo, List.map_cons, List.map_nil, List.replicate, List.append_nil, List.cons_append, List.nil_append, List.length_cons, List.length_nil, List.set_cons_zero, List.set_cons_succ, Option.map_some, Option.map_none, if_true, if_false, Bool.false_eq_true, Bool.not_true, Bool.not_false, reduceIte, b_len_t, b_len_l, b_lst_t, b_lst_l, b_tup_l, b_tup_t, b_int_i, b_int_b, zip_t, Nat.reduceAdd, Nat.reduceLT, wl1E]
    rw [show opD .mul (.list [.bool false]) (.int 13) = some (.list (List.replicate 13 (.bool false))) from by kernel_rfl]
    try simp only [exs, ex_asg, ex_asgs, ex_asgt, ex_put, ex_ex, ex_ite, ex_for, ex_while, ex_ret, ex_retN, ex_pass, ex_rai, ex_try, ev, evs, evk, evo, evc, evi, wp_bnd, wp_pur, wp_stop, wp_rai, wp_some, wp_none, wp_rd, wp_rds_nil, wp_rds, wp_bool, wp_ite, lv_d, slot_z, slot_s, it_l, it_t, bp_v, bp_t, bps_nil, bps_cons, Option.bind_some, wipe, Fl.val, K.opt_some, W.dat, isTy, isNo, List.map_cons, List.map_nil, List.replicate, List.append_nil, List.cons_append, List.nil_append, List.length_cons, List.length_nil, List.set_cons_zero, List.set_cons_succ, Option.map_some, Option.map_none, if_true, if_false, Bool.false_eq_true, Bool.not_true, Bool.not_false, reduceIte, b_len_t, b_len_l, b_lst_t, b_lst_l, b_tup_l, b_tup_t, b_int_i, b_int_b, zip_t, Nat.reduceAdd, Nat.reduceLT]
    rw [show ∀ ys, ys = List.replicate 13 (PyData.bool false) → cmpD .ne (.list (whichL (exo1 "ParcelError" t).cls)) (.list ys) = some false from fun ys e => by rw [e]; show cmpD .ne (.list (whichL "ParcelError")) _ = _; kernel_rfl]
    rotate_left
    · rfl
    try simp only [exs, ex_asg, ex_asgs, ex_asgt, ex_put, ex_ex, ex_ite, ex_for, ex_while, ex_ret, ex_retN, ex_pass, ex_rai, ex_try, ev, evs, evk, evo, evc, evi, wp_bnd, wp_pur, wp_stop, wp_rai, wp_some, wp_none, wp_rd, wp_rds_nil, wp_rds, wp_bool, wp_ite, lv_d, slot_z, slot_s, it_l, it_t, bp_v, bp_t, bps_nil, bps_cons, Option.bind_some, wipe, Fl.val, K.opt_some, W.dat, isTy, isNo, List.map_cons, List.map_nil, List.replicate, List.append_nil, List.cons_append, List.nil_append, List.length_cons, List.length_nil, List.set_cons_zero, List.set_cons_succ, Option.map_some, Option.map_none, if_true, if_false, Bool.false_eq_true, Bool.not_true, Bool.not_false, reduceIte, b_len_t, b_len_l, b_lst_t, b_lst_l, b_tup_l, b_tup_t, b_int_i, b_int_b, zip_t, Nat.reduceAdd, Nat.reduceLT]
    exact ⟨rest, rfl, by first | trivial | rfl, _, _, _, _, _, _, _, rfl⟩
end
end Cs
set_option Elab.async false
set_option linter.all false
set_option maxRecDepth 100000
set_option maxHeartbeats 0
namespace Cs
open PySem
theorem law_all : PySem.Challenge.rw_cardsaid_k29_errors_and_their_classes.Holds :=
  law_end fun ns h => law29 (J := md.info) ⟨by kernel_rfl, by kernel_rfl, by kernel_rfl⟩ (by kernel_rfl) (by kernel_rfl) ns h
end Cs

theorem PySem.Challenge.cw_cardsaid_k29_errors_and_their_classes_holds : PySem.Challenge.rw_cardsaid_k29_errors_and_their_classes.Holds :=
  Cs.law_all
