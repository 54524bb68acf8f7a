import PyProof.Rows.All
import Wide.All
import OpenK.AllK
import Wide.FinOn
import KE.KStateDown
import Lean
import HandS.ForMost
import HandS.Flow
import KE.GoesEnum
import HandS.Iter
import HandS.Zip
import HandS.DictComp
import HandS.Small
import HandS.Style
import HandS.List
import HandS.Deep
import HandS.Dict
import HandS.Strs
import PyProof.P3In
import PyProof.EqAt
import HandS.TupAny
import HandS.TupMul
import HandS.Wide
import HandS.Text
import HandS.Codes
import HandS.IsInst
import HandS.Conv
import HandS.TupLen
import HandS.WordsDict
import HandS.SortInts
import KE.DatumOrd
import HandS.SetFor
import KE.SortData
import KE.KDictDisplayH
import PyProof.DictUpdate
import PyProof.ReprRoads
import PyProof.ReprLen
import HandS.Ends
import HandS.HeadEnd
import HandS.Star
import PyProof.FactsAll.range_1
import HandS.Defaults
import HandS.HeadHook2
import HandS.Head0
import HandS.Head1
import HandS.Head2
import PySem.Challenge.RW_thingturns_k76_whole_retracted_tables
/-! Ev: a small evaluator for the part of Python that the texts use (plain Lean, no library). -/
noncomputable section
namespace Ev

inductive PV where
  | non | bl (b : Bool) | int (i : Int) | str (s : List Nat) | tup (f : Bool) (xs : List PV) | ref (i : Nat) | fn (k : Nat)

/-- box: an object of one's own that nobody looks into (k: its kind) -/
inductive Obj where
  | lst (xs : List PV) | dk (kvs : List (PV × PV)) | dt (kvs : List (PV × PV)) | ro (xs : List PV) | box (k : Nat)

abbrev Mem := List Obj
abbrev Rho := List (Option PV)

/-- ch: any of n ways -/
inductive Res (α : Type) where
  | ok (a : α) (M : Mem) | exc (c : Nat) (vs : List PV) (M : Mem) | no | ch (n : Nat) (f : Nat → Res α)
inductive SR where
  | nx (ρ : Rho) (M : Mem) | rt (v : PV) (M : Mem) | exc (c : Nat) (vs : List PV) (M : Mem) | no | ch (n : Nat) (f : Nat → SR)

/-! ### the eliminators (by the recursors: they are what the kernel runs) -/
def Res.bind {α β : Type} (r : Res α) (f : α → Mem → Res β) : Res β :=
  Res.rec (motive := fun _ => Res β) f Res.exc Res.no (fun n _ ih => Res.ch n ih) r
/-- the same; an exception is no answer -/
def Res.bindN {α β : Type} (r : Res α) (f : α → Mem → Res β) : Res β :=
  Res.rec (motive := fun _ => Res β) f (fun _ _ _ => .no) .no (fun n _ ih => Res.ch n ih) r
def Res.st {α : Type} (r : Res α) (f : α → Mem → SR) : SR :=
  Res.rec (motive := fun _ => SR) f SR.exc SR.no (fun n _ ih => SR.ch n ih) r
def Res.stN {α : Type} (r : Res α) (f : α → Mem → SR) : SR :=
  Res.rec (motive := fun _ => SR) f (fun _ _ _ => .no) SR.no (fun n _ ih => SR.ch n ih) r
def SR.thn (r : SR) (f : Rho → Mem → SR) : SR :=
  SR.rec (motive := fun _ => SR) f SR.rt SR.exc SR.no (fun n _ ih => SR.ch n ih) r
def opt {α β : Type} (o : Option α) (d : β) (f : α → β) : β :=
  Option.rec (motive := fun _ => β) d f o
def yes {β : Type} (k : Bool) (x y : β) : β :=
  Bool.rec (motive := fun _ => β) y x k
/-- by kinds: None, a bool, an int, a text, a tuple, an object, a function -/
def PV.el {β : Type} (v : PV) (n : β) (b : Bool → β) (i : Int → β) (s : List Nat → β) (t : List PV → β) (r : Nat → β) (f : Nat → β) : β :=
  PV.rec (motive_1 := fun _ => β) (motive_2 := fun _ => Unit) n b i s (fun _ xs _ => t xs) r f () (fun _ _ _ _ => ()) v
def PV.onI {β : Type} (v : PV) (d : β) (i : Int → β) : β :=
  PV.rec (motive_1 := fun _ => β) (motive_2 := fun _ => Unit) d (fun _ => d) i (fun _ => d) (fun _ _ _ => d) (fun _ => d) (fun _ => d) () (fun _ _ _ _ => ()) v
def PV.onB {β : Type} (v : PV) (d : β) (f : Bool → β) : β :=
  PV.rec (motive_1 := fun _ => β) (motive_2 := fun _ => Unit) d f (fun _ => d) (fun _ => d) (fun _ _ _ => d) (fun _ => d) (fun _ => d) () (fun _ _ _ _ => ()) v
def PV.onT {β : Type} (v : PV) (d : β) (f : List PV → β) : β :=
  PV.rec (motive_1 := fun _ => β) (motive_2 := fun _ => Unit) d (fun _ => d) (fun _ => d) (fun _ => d) (fun _ xs _ => f xs) (fun _ => d) (fun _ => d) () (fun _ _ _ _ => ()) v
def PV.onTF {β : Type} (v : PV) (d : β) (f : Bool → List PV → β) : β :=
  PV.rec (motive_1 := fun _ => β) (motive_2 := fun _ => Unit) d (fun _ => d) (fun _ => d) (fun _ => d) (fun k xs _ => f k xs) (fun _ => d) (fun _ => d) () (fun _ _ _ _ => ()) v
def PV.onR {β : Type} (v : PV) (d : β) (f : Nat → β) : β :=
  PV.rec (motive_1 := fun _ => β) (motive_2 := fun _ => Unit) d (fun _ => d) (fun _ => d) (fun _ => d) (fun _ _ _ => d) f (fun _ => d) () (fun _ _ _ _ => ()) v
def lc {α β : Type} (l : List α) (n : β) (c : α → List α → β) : β :=
  List.rec (motive := fun _ => β) n (fun x r _ => c x r) l
def nc {β : Type} (k : Nat) (z : β) (s : Nat → β) : β :=
  Nat.rec (motive := fun _ => β) z (fun m _ => s m) k
def ic {β : Type} (k : Int) (z : Nat → β) (s : Nat → β) : β :=
  Int.rec (motive := fun _ => β) z s k
/-- folds over a list (from the right), over a number -/
def lr {α β : Type} (n : β) (c : α → List α → β → β) (l : List α) : β :=
  List.rec (motive := fun _ => β) n c l
def nr {β : Type} (z : β) (s : Nat → β → β) (k : Nat) : β :=
  Nat.rec (motive := fun _ => β) z s k

/-! ### lists, numbers -/
def nth {α : Type} (l : List α) : Nat → Option α := lr (fun _ => none) (fun x _ ih n => nc n (some x) ih) l
def len {α : Type} (l : List α) : Nat := lr 0 (fun _ _ k => Nat.succ k) l
def app {α : Type} (l m : List α) : List α := lr m (fun x _ r => x :: r) l
def mapL {α β : Type} (f : α → β) (l : List α) : List β := lr [] (fun x _ r => f x :: r) l
def allL {α : Type} (p : α → Bool) (l : List α) : Bool := lr true (fun x _ r => yes (p x) r false) l
def revA {α : Type} (l : List α) : List α → List α := lr (fun acc => acc) (fun x _ r acc => r (x :: acc)) l
def rev {α : Type} (l : List α) : List α := revA l []
def takeL {α : Type} (l : List α) : Nat → List α := lr (fun _ => []) (fun x _ r n => nc n [] fun m => x :: r m) l
def dropL {α : Type} (n : Nat) : List α → List α := nr (fun l => l) (fun _ ih l => lc l [] fun _ r => ih r) n
def setL {α : Type} (l : List α) (v : α) : Nat → List α := lr (fun _ => []) (fun x r ih n => nc n (v :: r) fun m => x :: ih m) l
def delL {α : Type} (l : List α) : Nat → List α := lr (fun _ => []) (fun x r ih n => nc n r fun m => x :: ih m) l
def rep {α : Type} (xs : List α) (n : Nat) : List α := nr [] (fun _ r => app xs r) n
def line : Nat := 16777216
def lenOk (n : Nat) : Bool := Nat.ble n line
def natB (n m : Nat) : Bool := Nat.beq n m
def intEq (i j : Int) : Bool := ic i (fun a => ic j (fun b => Nat.beq a b) fun _ => false) fun a => ic j (fun _ => false) fun b => Nat.beq a b
def intLe (i j : Int) : Bool := ic i (fun a => ic j (fun b => Nat.ble a b) fun _ => false) fun a => ic j (fun _ => true) fun b => Nat.ble b a
def intLt (i j : Int) : Bool := ic i (fun a => ic j (fun b => Nat.ble (Nat.succ a) b) fun _ => false) fun a => ic j (fun _ => true) fun b => Nat.ble (Nat.succ b) a
def strEq (s : List Nat) : List Nat → Bool := lr (fun t => lc t true fun _ _ => false) (fun a _ ih t => lc t false fun b r => yes (Nat.beq a b) (ih r) false) s
def b2i (k : Bool) : Int := yes k (.ofNat 1) (.ofNat 0)
def eqAllF (f : PV → PV → Bool) (xs : List PV) : List PV → Bool := lr (fun ys => lc ys true fun _ _ => false) (fun x _ ih ys => lc ys false fun y r => yes (f x y) (ih r) false) xs

/-- operators -/
inductive Op where
  | add | sub | mul | fdiv | mod | pow
inductive Cm where
  | eq | ne | lt | le | gt | ge | isIn | notIn | is | isNot
/-- kinds of values, for isinstance -/
inductive Ty where
  | tInt | tBool | tStr | tTup | tLst | tDct
/-- built-in functions (and types that are called) -/
inductive Bi where
  | len | abs | max2 | min2 | int1 | sorted | tuple (f : Bool) | list | all | any | sum | max1 | min1 | repr | dict1 | isi (ts : List Ty) | bool1 | str1
/-- methods of built-in types -/
inductive Me where
  | append | extend | pop | popAt | index | count | update | get2 | remove

mutual
inductive G where
  | name (i : Nat) | tup (gs : List G) | sub (o i : E)

/-- what a loop walks -/
inductive I where
  | val (e : E) | rng1 (a : E) | rng2 (a b : E) | enum (a : E) | zip (a b : E)
/-- a member of a tuple's display -/
inductive A where
  | one (e : E) | star (i : I)

/-- a pair of a dict's display -/
inductive D where
  | kv (k v : E)

inductive E where
  | var (i : Nat) | int (i : Int) | bl (b : Bool) | non | str (s : List Nat) | con (v : PV) | gfn (g : Nat)
  | tup (f : Bool) (es : List E) | tupS (es : List A) | lst (es : List E) | dnew (t : Bool) | dct (t : Bool) (ps : List D)
  | bin (op : Op) (a b : E) | neg (a : E) | not (a : E) | and (a b : E) | or (a b : E)
  | cmp (op : Cm) (a b : E) | cmpR (ne : Bool) (a b : E) | chain (op op' : Cm) (a b c : E) | ite (c a b : E)
  | idx (a b : E) | cut (a : E) (lo hi : Option E) | rev (a : E)
  | comp (elt : E) (g : G) (it : I) (ifs : Option E) (own : List Nat)
  | dcomp (t : Bool) (k v : E) (g : G) (it : I) (ifs : Option E) (own : List Nat)
  | rngT (t : Bool) (a : I) | call (g : Nat) (es : List E) | bi (b : Bi) (es : List E) | me (m : Me) (o : E) (es : List E)
  | never
end

inductive S where
  | set (g : G) (e : E) | put (o i e : E) | aug (i : Nat) (op : Op) (e : E)
  | ret (e : E) | retN | iff (c : E) (a b : List S) | forr (g : G) (it : I) (b : List S) | whl (c : E) (b : List S)
  | expr (e : E) | pass | never

/-! ### values -/
/-- the item i of l, from the end below 0 -/
def atI {α : Type} (l : List α) (i : Int) : Option α := ic i (fun k => nth l k) fun k => yes (Nat.ble (Nat.succ k) (len l)) (nth l (Nat.sub (len l) (Nat.succ k))) none
def ixN (n : Nat) (i : Int) : Option Nat := ic i (fun k => yes (Nat.ble (Nat.succ k) n) (some k) none) fun k => yes (Nat.ble (Nat.succ k) n) (some (Nat.sub n (Nat.succ k))) none
def full {α : Type} (l : List α) : Bool := lc l false fun _ _ => true
def Obj.items (o : Obj) : Option (List PV) := match o with | .lst xs => some xs | .ro xs => some xs | .dk _ => none | .dt _ => none | .box _ => none
def Obj.mine (o : Obj) : Option (List PV) := match o with | .lst xs => some xs | .ro _ => none | .dk _ => none | .dt _ => none | .box _ => none
/-- a dict: are its keys tuples? its entries -/
def Obj.dict (o : Obj) : Option (Bool × List (PV × PV)) := match o with | .lst _ => none | .ro _ => none | .dk kvs => some (false, kvs) | .dt kvs => some (true, kvs) | .box _ => none
def Obj.tru (o : Obj) : Option Bool := match o with | .lst xs => some (full xs) | .ro xs => some (full xs) | .dk xs => some (full xs) | .dt _ => none | .box _ => none
def lstAt (M : Mem) (i : Nat) : Option (List PV) := opt (nth M i) none Obj.items
def mineAt (M : Mem) (i : Nat) : Option (List PV) := opt (nth M i) none Obj.mine
def dctAt (M : Mem) (i : Nat) : Option (Bool × List (PV × PV)) := opt (nth M i) none Obj.dict
/-- truth -/
def tru (M : Mem) (v : PV) : Option Bool := v.el (some false) some (fun i => some (ic i (fun n => nc n false fun _ => true) fun _ => true)) (fun s => some (full s)) (fun xs => some (full xs))
  (fun i => opt (nth M i) none fun o => o.tru) fun _ => none
/-- is the value data (no dict, no function) of bounded depth? -/
def data (M : Mem) (n : Nat) : PV → Bool := nr (fun _ => false) (fun _ ih v => v.el true (fun _ => true) (fun _ => true) (fun _ => true) (fun xs => allL ih xs) (fun i => opt (lstAt M i) false fun xs => allL ih xs) fun _ => false) n
/-- the items of a list or a tuple; of a list -/
def seqOf (M : Mem) (v : PV) : Option (List PV) := v.el none (fun _ => none) (fun _ => none) (fun _ => none) some (fun i => lstAt M i) fun _ => none
def lstOf (M : Mem) (v : PV) : Option (List PV) := v.onR none fun i => lstAt M i
/-- == of data (both are data of depth at most n) -/
def eqF (M : Mem) (n : Nat) : PV → PV → Bool := nr (fun _ _ => false) (fun _ ih a b => a.el
  (b.el true (fun _ => false) (fun _ => false) (fun _ => false) (fun _ => false) (fun _ => false) fun _ => false)
  (fun p => b.el false (fun q => yes p q (yes q false true)) (fun j => intEq (b2i p) j) (fun _ => false) (fun _ => false) (fun _ => false) fun _ => false)
  (fun i => b.el false (fun q => intEq i (b2i q)) (fun j => intEq i j) (fun _ => false) (fun _ => false) (fun _ => false) fun _ => false)
  (fun x => b.el false (fun _ => false) (fun _ => false) (fun y => strEq x y) (fun _ => false) (fun _ => false) fun _ => false)
  (fun xs => b.onT false fun ys => eqAllF ih xs ys)
  (fun i => b.onR false fun j => opt (lstAt M i) false fun xs => opt (lstAt M j) false fun ys => eqAllF ih xs ys)
  fun _ => false) n
def deep : Nat := 60
def eqV (M : Mem) (a b : PV) : Option Bool := yes (data M deep a) (yes (data M deep b) (some (eqF M deep a b)) none) none
/-- a value as it stands, without references: lists as marked tuples -/
def mapO {α β : Type} (f : α → Option β) (l : List α) : Option (List β) := lr (some []) (fun x _ r => opt (f x) none fun y => opt r none fun ys => some (y :: ys)) l
def snap (M : Mem) (n : Nat) : PV → Option PV := nr (fun _ => none) (fun _ ih v => v.el (some v) (fun _ => some v) (fun i => yes (Nat.ble i.natAbs 999999999999) (some v) none) (fun _ => some v)
  (fun xs => opt (mapO ih xs) none fun ys => some (.tup false ys)) (fun i => opt (lstAt M i) none fun xs => opt (mapO ih xs) none fun ys => some (.tup true ys)) fun _ => none) n
/-- the same, member by member -/
def eqT (n : Nat) : PV → PV → Bool := nr (fun _ _ => false) (fun _ ih a b => a.el
  (b.el true (fun _ => false) (fun _ => false) (fun _ => false) (fun _ => false) (fun _ => false) fun _ => false)
  (fun p => b.onB false fun q => yes p q (yes q false true))
  (fun i => b.onI false fun j => intEq i j)
  (fun x => b.el false (fun _ => false) (fun _ => false) (fun y => strEq x y) (fun _ => false) (fun _ => false) fun _ => false)
  (fun _ => a.onTF false fun f xs => b.onTF false fun g ys => yes (yes f g (yes g false true)) (eqAllF ih xs ys) false)
  (fun _ => false)
  fun _ => false) n
def bulkT (n : Nat) : PV → Nat := nr (fun _ => 0) (fun _ ih t => t.el 0 (fun _ => 0) (fun _ => 41) (fun s => len s) (fun xs => lr 0 (fun x _ r => Nat.add (Nat.succ (ih x)) r) xs) (fun _ => 0) fun _ => 0) n
def snapT (M : Mem) (v : PV) : Option PV := opt (snap M deep v) none fun t => yes (Nat.ble (bulkT deep t) 1000000) (some t) none

/-! ### operators -/
def two64 : Nat := 18446744073709551616
def fitMul (i j : Int) : Bool := yes (Nat.ble (Nat.succ i.natAbs) two64) true (yes (Nat.ble (Nat.succ j.natAbs) two64) true (Nat.ble (Nat.add (Nat.succ i.natAbs).log2 (Nat.succ j.natAbs).log2) 100000))
def new (M : Mem) (o : Obj) : Res PV := .ok (.ref (len M)) (app M [o])
def opAdd (M : Mem) (a b : PV) : Res PV := a.el .no (fun _ => .no) (fun i => b.onI .no fun j => .ok (.int (Int.add i j)) M)
  (fun x => b.el .no (fun _ => .no) (fun _ => .no) (fun y => yes (lenOk (Nat.add (len x) (len y))) (.ok (.str (app x y)) M) .no) (fun _ => .no) (fun _ => .no) fun _ => .no)
  (fun xs => b.onT .no fun ys => yes (lenOk (Nat.add (len xs) (len ys))) (lc xs (.ok b M) fun _ _ => lc ys (.ok a M) fun _ _ => .ok (.tup false (app xs ys)) M) .no)
  (fun i => b.onR .no fun j => opt (mineAt M i) .no fun xs => opt (mineAt M j) .no fun ys => yes (lenOk (Nat.add (len xs) (len ys))) (new M (.lst (app xs ys))) .no)
  fun _ => .no
def opSub (M : Mem) (a b : PV) : Res PV := a.onI .no fun i => b.onI .no fun j => .ok (.int (Int.sub i j)) M
def opMul (M : Mem) (a b : PV) : Res PV := b.onI .no fun j => a.el .no (fun _ => .no) (fun i => yes (fitMul i j) (.ok (.int (Int.mul i j)) M) .no) (fun _ => .no)
  (fun xs => ic j (fun k => yes (Nat.beq k 1) (.ok a M) (yes (Nat.ble 2 k) (yes (Nat.ble k 1000) (yes (full xs) (yes (Nat.ble (len xs) 1000) (.ok (.tup false (rep xs k)) M) .no) .no) .no) .no)) fun _ => .no)
  (fun i => ic j (fun k => opt (mineAt M i) .no fun xs => yes (Nat.ble k 1000000000) (yes (lenOk (Nat.mul (len xs) k)) (new M (.lst (rep xs k))) .no) .no) fun _ => .no)
  fun _ => .no
def divI (i : Int) (k : Nat) : Int := ic i (fun n => .ofNat (Nat.div n k)) fun n => .negSucc (Nat.div n k)
def modI (i : Int) (k : Nat) : Int := ic i (fun n => .ofNat (Nat.mod n k)) fun n => .ofNat (Nat.sub k (Nat.succ (Nat.mod n k)))
def opFdiv (M : Mem) (a b : PV) : Res PV := a.onI .no fun i => b.onI .no fun j => ic j (fun k => yes (Nat.ble 1 k) (yes (Nat.ble k 1073741823) (.ok (.int (divI i k)) M) .no) .no) fun _ => .no
def opMod (M : Mem) (a b : PV) : Res PV := a.onI .no fun i => b.onI .no fun j => ic j (fun k => yes (Nat.ble 1 k) (.ok (.int (modI i k)) M) .no) fun _ => .no
def opPow (M : Mem) (a b : PV) : Res PV := a.onI .no fun i => b.onI .no fun j => ic j (fun k => ic i (fun n => yes (Nat.ble k 1000) (yes (Nat.ble n 1000000) (.ok (.int (.ofNat (Nat.pow n k))) M) .no) .no) fun _ => .no) fun _ => .no
def evOp (op : Op) : Mem → PV → PV → Res PV := match op with
  | .add => opAdd | .sub => opSub | .mul => opMul | .fdiv => opFdiv | .mod => opMod | .pow => opPow

/-- is x among the items? -/
def anyEq (M : Mem) (x : PV) (l : List PV) : Option Bool := lr (some false) (fun y _ r => opt (eqV M y x) none fun k => yes k (yes (opt r false fun _ => true) (some true) none) r) l
/-- keys of dicts: intsOf and texts (dk); tuples of these (dt) -/
def leaf (v : PV) : Bool := v.el false (fun _ => false) (fun _ => true) (fun _ => true) (fun _ => false) (fun _ => false) fun _ => false
def leafEq (a b : PV) : Bool := a.el false (fun _ => false) (fun i => b.onI false fun j => intEq i j) (fun x => b.el false (fun _ => false) (fun _ => false) (fun y => strEq x y) (fun _ => false) (fun _ => false) fun _ => false) (fun _ => false) (fun _ => false) fun _ => false
def keyEq (a b : PV) : Bool := a.el false (fun _ => false) (fun _ => leafEq a b) (fun _ => leafEq a b) (fun xs => b.onT false fun ys => eqAllF leafEq xs ys) (fun _ => false) fun _ => false
def keyOk (t : Bool) (v : PV) : Bool := yes t (v.onTF false fun f xs => yes f false (allL leaf xs)) (leaf v)
def find (k : PV) (kvs : List (PV × PV)) : Option PV := lr none (fun p _ r => yes (keyEq p.1 k) (some p.2) r) kvs
def anyL {α : Type} (p : α → Bool) (l : List α) : Bool := lr false (fun x _ r => yes (p x) true r) l
def putIn (k v : PV) (kvs : List (PV × PV)) : List (PV × PV) := yes (anyL (fun p => keyEq p.1 k) kvs) (mapL (fun p => yes (keyEq p.1 k) (p.1, v) p) kvs) (app kvs [(k, v)])
def mkD (t : Bool) (kvs : List (PV × PV)) : Obj := yes t (.dt kvs) (.dk kvs)
def isNonB (a : PV) : Bool := a.el true (fun _ => false) (fun _ => false) (fun _ => false) (fun _ => false) (fun _ => false) fun _ => false
def some? {α : Type} (o : Option α) : Bool := opt o false fun _ => true
def no? (k : Bool) : Bool := yes k false true
def cmEq (M : Mem) (a b : PV) : Res PV := opt (eqV M a b) .no fun r => .ok (.bl r) M
def cmNe (M : Mem) (a b : PV) : Res PV := opt (eqV M a b) .no fun r => .ok (.bl (no? r)) M
def cmIs (M : Mem) (a b : PV) : Res PV := yes (isNonB b) (.ok (.bl (isNonB a)) M) .no
def cmIsNot (M : Mem) (a b : PV) : Res PV := yes (isNonB b) (.ok (.bl (no? (isNonB a))) M) .no
def isIn (M : Mem) (a b : PV) : Option Bool := b.el none (fun _ => none) (fun _ => none) (fun _ => none) (fun xs => yes (data M deep a) (anyEq M a xs) none)
  (fun i => opt (nth M i) none fun o => opt o.items (opt o.dict none fun d => yes (keyOk d.1 a) (some (some? (find a d.2))) none) fun xs => yes (data M deep a) (anyEq M a xs) none) fun _ => none
def cmIn (M : Mem) (a b : PV) : Res PV := opt (isIn M a b) .no fun r => .ok (.bl r) M
def cmNotIn (M : Mem) (a b : PV) : Res PV := opt (isIn M a b) .no fun r => .ok (.bl (no? r)) M
def cmInt (f : Int → Int → Bool) (M : Mem) (a b : PV) : Res PV := a.onI .no fun i => b.onI .no fun j => .ok (.bl (f i j)) M
def evCm (op : Cm) : Mem → PV → PV → Res PV := match op with
  | .eq => cmEq | .ne => cmNe | .is => cmIs | .isNot => cmIsNot | .isIn => cmIn | .notIn => cmNotIn
  | .lt => cmInt intLt | .le => cmInt intLe | .gt => cmInt fun i j => intLt j i | .ge => cmInt fun i j => intLe j i

/-! ### items, slices -/
def evIdx (M : Mem) (a b : PV) : Res PV := a.el .no (fun _ => .no) (fun _ => .no)
  (fun s => b.onI .no fun i => opt (atI s i) .no fun c => .ok (.str [c]) M)
  (fun xs => b.onI .no fun i => opt (atI xs i) .no fun v => .ok v M)
  (fun j => opt (nth M j) .no fun o => opt o.items (opt o.dict .no fun d => yes (keyOk d.1 b) (opt (find b d.2) .no fun v => .ok v M) .no)
    fun xs => b.onI .no fun i => opt (atI xs i) .no fun v => .ok v M)
  fun _ => .no
/-- a slice's bound -/
def sIx (n d : Nat) (o : Option Int) : Nat := opt o d fun i => ic i (fun k => yes (Nat.ble k n) k n) fun k => Nat.sub n (Nat.succ k)
def cutL {α : Type} (xs : List α) (lo hi : Option Int) : List α := takeL (dropL (sIx (len xs) 0 lo) xs) (Nat.sub (sIx (len xs) (len xs) hi) (sIx (len xs) 0 lo))
def evCut (M : Mem) (a : PV) (lo hi : Option Int) : Res PV := a.el .no (fun _ => .no) (fun _ => .no) (fun s => .ok (.str (cutL s lo hi)) M) (fun xs => yes (yes (Nat.beq (sIx (len xs) 0 lo) 0) (Nat.beq (sIx (len xs) (len xs) hi) (len xs)) false) (.ok a M) (.ok (.tup false (cutL xs lo hi)) M))
  (fun i => opt (mineAt M i) .no fun xs => new M (.lst (cutL xs lo hi))) fun _ => .no
def evRev (M : Mem) (a : PV) : Res PV := a.el .no (fun _ => .no) (fun _ => .no) (fun _ => .no) (fun xs => .ok (.tup false (rev xs)) M)
  (fun i => opt (mineAt M i) .no fun xs => new M (.lst (rev xs))) fun _ => .no

/-! ### built-in functions -/
def isTy (M : Mem) (v : PV) (t : Ty) : Bool := match t with
  | .tInt => v.el false (fun _ => true) (fun _ => true) (fun _ => false) (fun _ => false) (fun _ => false) fun _ => false
  | .tBool => v.onB false fun _ => true
  | .tStr => v.el false (fun _ => false) (fun _ => false) (fun _ => true) (fun _ => false) (fun _ => false) fun _ => false
  | .tTup => v.onT false fun _ => true
  | .tLst => v.onR false fun i => some? (lstAt M i)
  | .tDct => v.onR false fun i => some? (dctAt M i)
def intsOf (l : List PV) : Option (List Int) := lr (some []) (fun v _ r => v.onI none fun i => opt r none fun is => some (i :: is)) l
def bools (l : List PV) : Option (List Bool) := lr (some []) (fun v _ r => v.onB none fun i => opt r none fun is => some (i :: is)) l
def sumI (l : List Int) : Int := lr (.ofNat 0) (fun i _ r => Int.add i r) l
def maxI (l : List Int) : Int → Int := lr (fun a => a) (fun i _ r a => r (yes (intLt a i) i a)) l
def minI (l : List Int) : Int → Int := lr (fun a => a) (fun i _ r a => r (yes (intLt i a) i a)) l
def allB (l : List Bool) : Bool := lr true (fun k _ r => yes k r false) l
def anyB (l : List Bool) : Bool := lr false (fun k _ r => yes k true r) l
def insI (x : Int) (l : List Int) : List Int := lr [x] (fun y r ih => yes (intLe x y) (x :: y :: r) (y :: ih)) l
def sortI (l : List Int) : List Int := lr [] (fun x _ r => insI x r) l
/-- order of rows of intsOf -/
def rowLe (x : List Int) : List Int → Bool := lr (fun _ => true) (fun a _ ih y => lc y false fun b s => yes (intLt a b) true (yes (intLt b a) false (ih s))) x
def insR (x : List Int) (l : List (List Int)) : List (List Int) := lr [x] (fun y r ih => yes (rowLe x y) (x :: y :: r) (y :: ih)) l
def sortR (l : List (List Int)) : List (List Int) := lr [] (fun x _ r => insR x r) l
def rows (f : Bool) (l : List PV) : Option (List (List Int)) := lr (some []) (fun v _ r => v.onTF none fun k xs => yes (yes k f (no? f)) (opt (intsOf xs) none fun is => yes (full is) (opt r none fun q => some (is :: q)) none) none) l
def intsP (l : List Int) : List PV := mapL PV.int l
/-- sorted, of intsOf or of tuples of intsOf -/
def sortRV (f : Bool) (l : List (List Int)) : List PV := mapL (fun r => PV.tup f (intsP r)) (sortR l)
def sortV (xs : List PV) : Option (List PV) := opt (intsOf xs) (opt (rows false xs) (opt (rows true xs) none fun l => some (sortRV true l)) fun l => some (sortRV false l)) fun is => some (intsP (sortI is))
/-- what is walked by list(..), sorted(..): items of a list, a tuple, keys of a dict -/
def walk (M : Mem) (v : PV) : Option (List PV) := v.el none (fun _ => none) (fun _ => none) (fun _ => none) some
  (fun i => opt (nth M i) none fun o => opt o.items (opt o.dict none fun d => some (mapL (fun p => p.1) d.2)) some) fun _ => none
def digits (f : Nat) : Nat → List Nat → List Nat := nr (fun _ acc => acc) (fun _ ih n acc => nc n acc fun _ => ih (Nat.div n 10) (Nat.add 48 (Nat.mod n 10) :: acc)) f
def natText (n : Nat) : List Nat := nc n [48] fun _ => digits (Nat.succ n.log2) n []
def intText (i : Int) : List Nat := ic i natText fun n => 45 :: natText (Nat.succ n)
def pairs (l : List PV) : Option (List (PV × PV)) := lr (some []) (fun v _ r => v.onT none fun xs => lc xs none fun k ys => lc ys none fun w zs => lc zs (opt r none fun q => some ((k, w) :: q)) fun _ _ => none) l
def putAll (more : List (PV × PV)) : List (PV × PV) → List (PV × PV) := lr (fun kvs => kvs) (fun p _ ih kvs => ih (putIn p.1 p.2 kvs)) more
def keysOk (t : Bool) (kvs : List (PV × PV)) : Bool := allL (fun p => keyOk t p.1) kvs
def iota (n : Nat) : Int → List PV := nr (fun _ => []) (fun _ ih lo => .int lo :: ih (Int.add lo (.ofNat 1))) n
def sgn (c : Nat) : Option Nat := yes (Nat.ble 48 c) (yes (Nat.ble c 57) (some (Nat.sub c 48)) none) none
def biLen (M : Mem) (v : PV) : Res PV := v.el .no (fun _ => .no) (fun _ => .no) (fun s => .ok (.int (.ofNat (len s))) M) (fun xs => .ok (.int (.ofNat (len xs))) M)
  (fun i => opt (nth M i) .no fun o => opt o.items (opt o.dict .no fun d => .ok (.int (.ofNat (len d.2))) M) fun xs => .ok (.int (.ofNat (len xs))) M) fun _ => .no
def biAbs (M : Mem) (v : PV) : Res PV := v.onI .no fun i => .ok (.int (.ofNat i.natAbs)) M
def biMax2 (M : Mem) (v w : PV) : Res PV := v.onI .no fun i => w.onI .no fun j => .ok (.int (yes (intLt i j) j i)) M
def biMin2 (M : Mem) (v w : PV) : Res PV := v.onI .no fun i => w.onI .no fun j => .ok (.int (yes (intLt j i) j i)) M
def biInt (M : Mem) (v : PV) : Res PV := v.el .no (fun k => .ok (.int (b2i k)) M) (fun i => .ok (.int i) M)
  (fun s => lc s .no fun c r => lc r (opt (sgn c) .no fun n => .ok (.int (.ofNat n)) M) fun _ _ => .no) (fun _ => .no) (fun _ => .no) fun _ => .no
def biSorted (M : Mem) (v : PV) : Res PV := v.onR .no fun _ => opt (walk M v) .no fun l => opt (sortV l) .no fun r => new M (.lst r)
/-- tuple(x); f: is a new one held as it stands? -/
def biTuple (f : Bool) (M : Mem) (v : PV) : Res PV := v.el .no (fun _ => .no) (fun _ => .no) (fun _ => .no) (fun _ => .ok v M) (fun i => opt (lstAt M i) .no fun l => .ok (.tup f l) M) fun _ => .no
def biList (M : Mem) (v : PV) : Res PV := opt (walk M v) .no fun l => new M (.lst l)
def biAll (M : Mem) (v : PV) : Res PV := opt (lstOf M v) .no fun l => opt (bools l) .no fun bs => .ok (.bl (allB bs)) M
def biAny (M : Mem) (v : PV) : Res PV := opt (lstOf M v) .no fun l => opt (bools l) .no fun bs => .ok (.bl (anyB bs)) M
def biSum (M : Mem) (v : PV) : Res PV := opt (lstOf M v) .no fun l => opt (intsOf l) .no fun is => .ok (.int (sumI is)) M
def biMax (M : Mem) (v : PV) : Res PV := opt (seqOf M v) .no fun l => opt (intsOf l) .no fun is => lc is .no fun i r => .ok (.int (maxI r i)) M
def biMin (M : Mem) (v : PV) : Res PV := opt (seqOf M v) .no fun l => opt (intsOf l) .no fun is => lc is .no fun i r => .ok (.int (minI r i)) M
def biStr (M : Mem) (v : PV) : Res PV := v.onI .no fun i => yes (Nat.ble i.natAbs.log2 1000) (.ok (.str (intText i)) M) .no
def biDict (M : Mem) (v : PV) : Res PV := opt (lstOf M v) .no fun l => opt (pairs l) .no fun kvs => yes (keysOk false kvs) (new M (.dk (putAll kvs []))) .no
/-- may one look at the value's kind? -/
def seen (M : Mem) (v : PV) : Bool := v.onR true fun i => opt (nth M i) false fun o => match o with | .lst _ => true | .ro _ => true | .dk _ => true | .dt _ => true | .box _ => false
def biIsi (ts : List Ty) (M : Mem) (v : PV) : Res PV := yes (seen M v) (.ok (.bl (lr false (fun t _ r => yes (isTy M v t) true r) ts)) M) .no
def b1 (f : Mem → PV → Res PV) (M : Mem) (xs : List PV) : Res PV := lc xs .no fun v r => lc r (f M v) fun _ _ => .no
def b2 (f : Mem → PV → PV → Res PV) (M : Mem) (xs : List PV) : Res PV := lc xs .no fun v r => lc r .no fun w q => lc q (f M v w) fun _ _ => .no
def evBi (b : Bi) : Mem → List PV → Res PV := match b with
  | .len => b1 biLen | .abs => b1 biAbs | .max2 => b2 biMax2 | .min2 => b2 biMin2 | .int1 => b1 biInt | .sorted => b1 biSorted | .tuple f => b1 (biTuple f) | .list => b1 biList
  | .all => b1 biAll | .any => b1 biAny | .sum => b1 biSum | .max1 => b1 biMax | .min1 => b1 biMin | .repr => b1 biStr | .str1 => b1 biStr | .dict1 => b1 biDict
  | .isi ts => b1 (biIsi ts) | .bool1 => fun _ _ => .no

/-! ### methods -/
def idxOf (M : Mem) (x : PV) (l : List PV) : Nat → Option Nat := lr (fun _ => none) (fun y _ ih k => opt (eqV M y x) none fun q => yes q (some k) (ih (Nat.succ k))) l
def cntOf (M : Mem) (x : PV) (l : List PV) : Option Nat := lr (some 0) (fun y _ r => opt (eqV M y x) none fun q => yes q (opt r none fun k => some (Nat.succ k)) r) l
/-- has the value no reference at or above b? -/
def below (b : Nat) (n : Nat) : PV → Bool := nr (fun _ => false) (fun _ ih v => v.el true (fun _ => true) (fun _ => true) (fun _ => true) (fun xs => allL ih xs) (fun i => Nat.ble (Nat.succ i) b) fun _ => true) n
/-- may v be stored in the object i by a frame whose own objects begin at b? -/
def mayIn (b i : Nat) (v : PV) : Bool := yes (Nat.ble b i) true (below (Nat.succ i) deep v)
def put1 (M : Mem) (i : Nat) (o : Obj) : Mem := setL M o i
def meAppend (b : Nat) (M : Mem) (o v : PV) : Res PV := o.onR .no fun i => opt (mineAt M i) .no fun l => yes (Nat.ble (Nat.succ (len l)) line) (yes (mayIn b i v) (.ok .non (put1 M i (.lst (app l [v])))) .no) .no
def meExtend (b : Nat) (M : Mem) (o v : PV) : Res PV := o.onR .no fun i => v.onR .no fun j => opt (mineAt M i) .no fun l => opt (mineAt M j) .no fun r =>
  yes (lenOk (Nat.add (len l) (len r))) (yes (allL (mayIn b i) r) (.ok .non (put1 M i (.lst (app l r)))) .no) .no
def mePopAt (M : Mem) (o : PV) (k : Int) : Res PV := o.onR .no fun i => opt (mineAt M i) .no fun l => yes (lenOk (len l)) (opt (ixN (len l) k) .no fun j => opt (nth l j) .no fun v => .ok v (put1 M i (.lst (delL l j)))) .no
def meIndex (M : Mem) (o v : PV) : Res PV := opt (seqOf M o) .no fun l => yes (data M deep v) (yes (allL (data M deep) l) (opt (idxOf M v l 0) .no fun k => .ok (.int (.ofNat k)) M) .no) .no
def meCount (M : Mem) (o v : PV) : Res PV := opt (seqOf M o) .no fun l => yes (data M deep v) (yes (allL (data M deep) l) (opt (cntOf M v l) .no fun k => .ok (.int (.ofNat k)) M) .no) .no
def meUpdate (b : Nat) (M : Mem) (o v : PV) : Res PV := o.onR .no fun i => v.onR .no fun j => yes (Nat.beq i j) .no (opt (dctAt M i) .no fun d => opt (dctAt M j) .no fun e =>
  yes d.1 .no (yes e.1 .no (yes (lenOk (Nat.add (len d.2) (len e.2))) (yes (allL (fun p => mayIn b i p.2) e.2) (.ok .non (put1 M i (.dk (putAll e.2 d.2)))) .no) .no)))
def meGet (M : Mem) (o k d : PV) : Res PV := o.onR .no fun i => opt (dctAt M i) .no fun e => yes (keyOk e.1 k) (.ok (opt (find k e.2) d fun v => v) M) .no
abbrev Mf := Nat → Mem → PV → List PV → Res PV
def m0 (f : Nat → Mem → PV → Res PV) : Mf := fun b M o xs => lc xs (f b M o) fun _ _ => .no
def m1 (f : Nat → Mem → PV → PV → Res PV) : Mf := fun b M o xs => lc xs .no fun v r => lc r (f b M o v) fun _ _ => .no
def m2 (f : Nat → Mem → PV → PV → PV → Res PV) : Mf := fun b M o xs => lc xs .no fun v r => lc r .no fun w q => lc q (f b M o v w) fun _ _ => .no
def evMe (m : Me) : Mf := match m with
  | .append => m1 meAppend | .extend => m1 meExtend | .pop => m0 fun _ M o => mePopAt M o (.negSucc 0) | .popAt => m1 fun _ M o v => v.onI .no fun k => mePopAt M o k
  | .index => m1 fun _ => meIndex | .count => m1 fun _ => meCount | .update => m1 meUpdate | .get2 => m2 fun _ => meGet | .remove => fun _ _ _ _ => .no
/-- what a method is asked of -/
def meKd (m : Me) (M : Mem) (v : PV) : Bool := match m with
  | .append => v.onR false fun i => some? (mineAt M i) | .extend => v.onR false fun i => some? (mineAt M i) | .pop => v.onR false fun i => some? (mineAt M i) | .popAt => v.onR false fun i => some? (mineAt M i)
  | .index => v.el false (fun _ => false) (fun _ => false) (fun _ => false) (fun _ => v.onTF false fun f _ => f) (fun i => some? (lstAt M i)) fun _ => false
  | .count => v.el false (fun _ => false) (fun _ => false) (fun _ => false) (fun _ => v.onTF false fun f _ => f) (fun i => some? (lstAt M i)) fun _ => false
  | .update => v.onR false fun i => some? (dctAt M i) | .get2 => v.onR false fun i => some? (dctAt M i) | .remove => false
/-- o[i] = v -/
def evPut (b : Nat) (M : Mem) (o i v : PV) : Option Mem := o.onR none fun a => opt (nth M a) none fun ob => opt ob.mine
  (opt ob.dict none fun d => yes (keyOk d.1 i) (yes (Nat.ble (Nat.succ (len d.2)) line) (yes (mayIn b a v) (some (put1 M a (mkD d.1 (putIn i v d.2)))) none) none) none)
  fun l => i.onI none fun k => opt (ixN (len l) k) none fun j => yes (mayIn b a v) (some (put1 M a (.lst (setL l v j)))) none

/-! ### what loops walk -/
inductive It where
  | val (v : PV) | str (s : List Nat) | rng (lo : Int) (n : Nat) | enum (v : PV) | zip (v w : PV)
/-- the item j: no answer, the end, an item -/
inductive Nx where | no | stop | item (v : PV)
def itAt (M : Mem) (it : It) (j : Nat) : Nx := match it with
  | .val v => opt (seqOf M v) .no fun xs => opt (nth xs j) .stop .item
  | .str s => opt (nth s j) .stop fun c => .item (.str [c])
  | .rng lo n => yes (Nat.ble (Nat.succ j) n) (.item (.int (Int.add lo (.ofNat j)))) .stop
  | .enum v => opt (seqOf M v) .no fun xs => opt (nth xs j) .stop fun x => .item (.tup false [.int (.ofNat j), x])
  | .zip v w => opt (seqOf M v) .no fun xs => opt (seqOf M w) .no fun ys => opt (nth xs j) .stop fun x => opt (nth ys j) .stop fun y => .item (.tup false [x, y])
def two62 : Int := .ofNat 4611686018427387904
def rngOk (i j : Int) : Bool := yes (intLe (Int.neg two62) i) (yes (intLt i two62) (yes (intLe (Int.neg two62) j) (intLt j two62) false) false) false
def wipe (ρ : Rho) (l : List Nat) : Rho := lr ρ (fun i _ r => setL r none i) l
def turns : Nat := 1000000
def Nx.el {β : Type} (x : Nx) (n s : β) (f : PV → β) : β :=
  Nx.rec (motive := fun _ => β) n s f x

/-- what a frame knows: how functions are called, where its own objects begin -/
structure Fx where
  cf : Nat → List PV → Mem → Res PV
  b : Nat
abbrev Se := Fx → Rho → Mem → Res PV
abbrev Sl := Fx → Rho → Mem → Res (List PV)
abbrev Si := Fx → Rho → Mem → Res It
abbrev Sg := PV → Fx → Rho → Mem → Res Rho
abbrev Sgl := List PV → Fx → Rho → Mem → Res Rho
abbrev So := Fx → Rho → Mem → Res (Option Int)
abbrev Sb := Fx → Rho → Mem → Res Bool
abbrev Ss := Fx → Rho → Mem → SR
/-! ### expressions, by what their parts do -/
def sNo : Se := fun _ _ _ => .no
def sVar (i : Nat) : Se := fun _ ρ M => opt (nth ρ i) .no fun o => opt o .no fun v => .ok v M
def sVal (v : PV) : Se := fun _ _ M => .ok v M
def lNil : Sl := fun _ _ M => .ok [] M
def lCons (e : Se) (r : Sl) : Sl := fun c ρ M => (e c ρ M).bind fun v M1 => (r c ρ M1).bind fun vs M2 => .ok (v :: vs) M2
def starOf (M : Mem) (it : It) : Option (List PV) := match it with
  | .val v => seqOf M v | .rng lo n => yes (lenOk n) (some (iota n lo)) none | .str _ => none | .enum _ => none | .zip _ _ => none
def lStar (i : Si) (r : Sl) : Sl := fun c ρ M => (i c ρ M).bind fun it M1 => opt (starOf M1 it) .no fun xs => (r c ρ M1).bind fun vs M2 => .ok (app xs vs) M2
def sTup (f : Bool) (l : Sl) : Se := fun c ρ M => (l c ρ M).bind fun vs M1 => .ok (.tup f vs) M1
def sTupS (l : Sl) : Se := fun c ρ M => (l c ρ M).bind fun vs M1 => yes (lenOk (len vs)) (.ok (.tup false vs) M1) .no
def sLst (l : Sl) : Se := fun c ρ M => (l c ρ M).bind fun vs M1 => new M1 (.lst vs)
def sDnew (t : Bool) : Se := fun _ _ M => new M (mkD t [])
abbrev Sp := Fx → Rho → Mem → Res (List (PV × PV))
def pL (l : List (Se × Se)) : Sp := lr (fun _ _ M => .ok [] M) (fun p _ r c ρ M => (p.1 c ρ M).bind fun k M1 => (p.2 c ρ M1).bind fun v M2 => (r c ρ M2).bind fun ps M3 => .ok ((k, v) :: ps) M3) l
def sDct (t : Bool) (l : List (Se × Se)) : Se := fun c ρ M => (pL l c ρ M).bind fun kvs M1 => yes (keysOk t kvs) (new M1 (mkD t (putAll kvs []))) .no
def s2 (f : Mem → PV → PV → Res PV) (x y : Se) : Se := fun c ρ M => (x c ρ M).bind fun v M1 => (y c ρ M1).bind fun w M2 => f M2 v w
def s1 (f : Mem → PV → Res PV) (x : Se) : Se := fun c ρ M => (x c ρ M).bind fun v M1 => f M1 v
def negV (M : Mem) (x : PV) : Res PV := x.onI .no fun i => .ok (.int (Int.neg i)) M
def notV (M : Mem) (x : PV) : Res PV := opt (tru M x) .no fun k => .ok (.bl (no? k)) M
/-- by the truth of v -/
def byT {β : Type} (M : Mem) (v : PV) (d x y : β) : β := opt (tru M v) d fun k => yes k x y
def sAnd (x y : Se) : Se := fun c ρ M => (x c ρ M).bind fun v M1 => byT M1 v .no (y c ρ M1) (.ok v M1)
def sOr (x y : Se) : Se := fun c ρ M => (x c ρ M).bind fun v M1 => byT M1 v .no (.ok v M1) (y c ρ M1)
def sCmpR (ne : Bool) (x y : Se) : Se := fun c ρ M => (x c ρ M).bind fun v M1 => opt (snapT M1 v) .no fun t => (y c ρ M1).bind fun w M2 => opt (snapT M2 w) .no fun u => yes (eqT deep t u) (.ok (.bl (no? ne)) M2) .no
def sChain (f g : Mem → PV → PV → Res PV) (x y z : Se) : Se := fun c ρ M => (x c ρ M).bind fun v M1 => (y c ρ M1).bind fun w M2 => (f M2 v w).bind fun r M3 =>
  r.onB .no fun k => yes k ((z c ρ M3).bind fun u M4 => g M4 w u) (.ok (.bl false) M3)
def sIte (t x y : Se) : Se := fun c ρ M => (t c ρ M).bind fun v M1 => byT M1 v .no (x c ρ M1) (y c ρ M1)
def oNone : So := fun _ _ M => .ok none M
def oSome (x : Se) : So := fun c ρ M => (x c ρ M).bind fun v M1 => v.onI .no fun i => .ok (some i) M1
def sCut (x : Se) (lo hi : So) : Se := fun c ρ M => (x c ρ M).bind fun v M1 => (lo c ρ M1).bind fun l M2 => (hi c ρ M2).bind fun h M3 => evCut M3 v l h
def sCall (g : Nat) (l : Sl) : Se := fun c ρ M => (l c ρ M).bind fun vs M1 => c.cf g vs M1
def sBi (f : Mem → List PV → Res PV) (l : Sl) : Se := fun c ρ M => (l c ρ M).bind fun vs M1 => f M1 vs
def sMe (k : Mem → PV → Bool) (f : Mf) (o : Se) (l : Sl) : Se := fun c ρ M => (o c ρ M).bind fun ov M1 => yes (k M1 ov) ((l c ρ M1).bind fun vs M2 => f c.b M2 ov vs) .no
/-! ### what loops walk -/
/-- a list or a tuple (0, 1) -/
def kindSq (M : Mem) (v : PV) : Option Bool := v.el none (fun _ => none) (fun _ => none) (fun _ => none) (fun _ => some true) (fun i => opt (lstAt M i) none fun _ => some false) fun _ => none
def iVal (x : Se) : Si := fun c ρ M => (x c ρ M).bind fun v M1 => v.el .no (fun _ => .no) (fun _ => .no) (fun s => .ok (.str s) M1) (fun _ => .ok (.val v) M1) (fun i => opt (lstAt M1 i) .no fun _ => .ok (.val v) M1) fun _ => .no
def iRng1 (x : Se) : Si := fun c ρ M => (x c ρ M).bind fun v M1 => v.onI .no fun j => yes (rngOk (.ofNat 0) j) (.ok (.rng (.ofNat 0) j.toNat) M1) .no
def iRng2 (x y : Se) : Si := fun c ρ M => (x c ρ M).bind fun v M1 => (y c ρ M1).bind fun w M2 => v.onI .no fun i => w.onI .no fun j => yes (rngOk i j) (.ok (.rng i (Int.sub j i).toNat) M2) .no
def iEnum (x : Se) : Si := fun c ρ M => (x c ρ M).bind fun v M1 => opt (kindSq M1 v) .no fun _ => .ok (.enum v) M1
def iZip (x y : Se) : Si := fun c ρ M => (x c ρ M).bind fun v M1 => (y c ρ M1).bind fun w M2 => opt (kindSq M2 v) .no fun p => opt (kindSq M2 w) .no fun q => yes (yes p q (no? q)) (.ok (.zip v w) M2) .no
/-- tuple(range(..)), list(range(..)) -/
def sRng (t : Bool) (i : Si) : Se := fun c ρ M => (i c ρ M).bind fun it M1 => match it with
  | .rng lo n => yes (lenOk n) (yes t (.ok (.tup false (iota n lo)) M1) (new M1 (.lst (iota n lo)))) .no
  | .val _ => .no | .str _ => .no | .enum _ => .no | .zip _ _ => .no
/-! ### targets -/
def gName (i : Nat) : Sg := fun v _ ρ M => .ok (setL ρ (some v) i) M
def gTup (n : Nat) (l : Sgl) : Sg := fun v c ρ M => v.onT .no fun xs => yes (Nat.beq (len xs) n) (l xs c ρ M) .no
def glNil : Sgl := fun xs _ ρ M => lc xs (.ok ρ M) fun _ _ => .no
def glCons (g : Sg) (r : Sgl) : Sgl := fun xs c ρ M => lc xs .no fun x ys => (g x c ρ M).bind fun ρ1 M1 => r ys c ρ1 M1
def gSub (o i : Se) : Sg := fun v c ρ M => (o c ρ M).bind fun ov M1 => (i c ρ M1).bind fun iv M2 => opt (evPut c.b M2 ov iv v) .no fun M3 => .ok ρ M3
/-! ### comprehensions -/
def bYes : Sb := fun _ _ M => .ok true M
def bIf (x : Se) : Sb := fun c ρ M => (x c ρ M).bind fun v M1 => opt (tru M1 v) .no fun k => .ok k M1
/-- the loop of a comprehension: its items so far are kept apart -/
def compL (elt : Se) (g : Sg) (ifs : Sb) (it : It) (c : Fx) (ρ : Rho) (n : Nat) : Nat → List PV → Mem → Res (List PV) := nr (fun _ _ _ => .no) (fun _ ih j acc M =>
  (itAt M it j).el .no (.ok (rev acc) M) fun v => (g v c ρ M).bindN fun ρ1 M1 => (ifs c ρ1 M1).bindN fun k M2 =>
    yes k ((elt c ρ1 M2).bindN fun y M3 => ih (Nat.succ j) (y :: acc) M3) (ih (Nat.succ j) acc M2)) n
def sComp (elt : Se) (g : Sg) (i : Si) (ifs : Sb) (own : List Nat) : Se := fun c ρ M => (i c ρ M).bind fun it M1 => (compL elt g ifs it c (wipe ρ own) turns 0 [] M1).bind fun vs M2 => new M2 (.lst vs)
def dcompL (t : Bool) (k v : Se) (g : Sg) (ifs : Sb) (it : It) (c : Fx) (ρ : Rho) (n : Nat) : Nat → List (PV × PV) → Mem → Res (List (PV × PV)) := nr (fun _ _ _ => .no) (fun _ ih j acc M =>
  (itAt M it j).el .no (.ok acc M) fun x => (g x c ρ M).bindN fun ρ1 M1 => (ifs c ρ1 M1).bindN fun q M2 =>
    yes q ((k c ρ1 M2).bindN fun y M3 => (v c ρ1 M3).bindN fun z M4 => yes (keyOk t y) (ih (Nat.succ j) (putIn y z acc) M4) .no) (ih (Nat.succ j) acc M2)) n
def sDcomp (t : Bool) (k v : Se) (g : Sg) (i : Si) (ifs : Sb) (own : List Nat) : Se := fun c ρ M => (i c ρ M).bind fun it M1 => (dcompL t k v g ifs it c (wipe ρ own) turns 0 [] M1).bind fun kvs M2 => new M2 (mkD t kvs)
/-! ### statements -/
def tNo : Ss := fun _ _ _ => .no
def tNil : Ss := fun _ ρ M => .nx ρ M
def tSeq (a b : Ss) : Ss := fun c ρ M => (a c ρ M).thn fun ρ1 M1 => b c ρ1 M1
def tSet (g : Sg) (e : Se) : Ss := fun c ρ M => (e c ρ M).st fun v M1 => (g v c ρ M1).stN fun ρ1 M2 => .nx ρ1 M2
def tPut (o i e : Se) : Ss := fun c ρ M => (e c ρ M).st fun v M1 => (o c ρ M1).stN fun ov M2 => (i c ρ M2).stN fun iv M3 => opt (evPut c.b M3 ov iv v) .no fun M4 => .nx ρ M4
def augV (op : Op) (x y : PV) : Option PV := x.onI none fun p => y.onI none fun q => match op with
  | .add => some (.int (Int.add p q)) | .sub => some (.int (Int.sub p q)) | .mul => none | .fdiv => none | .mod => none | .pow => none
def tAug (i : Nat) (op : Op) (e : Se) : Ss := fun c ρ M => opt (nth ρ i) .no fun o => opt o .no fun x => (e c ρ M).st fun y M1 => opt (augV op x y) .no fun z => .nx (setL ρ (some z) i) M1
def tRet (e : Se) : Ss := fun c ρ M => (e c ρ M).st fun v M1 => .rt v M1
def tRetN : Ss := fun _ _ M => .rt .non M
def tIf (t : Se) (x y : Ss) : Ss := fun c ρ M => (t c ρ M).st fun v M1 => byT M1 v .no (x c ρ M1) (y c ρ M1)
def forL (body : Ss) (g : Sg) (it : It) (c : Fx) (n : Nat) : Nat → Rho → Mem → SR := nr (fun _ _ _ => .no) (fun _ ih j ρ M =>
  (itAt M it j).el .no (.nx ρ M) fun v => (g v c ρ M).stN fun ρ1 M1 => (body c ρ1 M1).thn fun ρ2 M2 => ih (Nat.succ j) ρ2 M2) n
def tFor (g : Sg) (i : Si) (body : Ss) : Ss := fun c ρ M => (i c ρ M).st fun it M1 => forL body g it c turns 0 ρ M1
def whlL (t : Se) (body : Ss) (c : Fx) (n : Nat) : Rho → Mem → SR := nr (fun _ _ => .no) (fun _ ih ρ M =>
  (t c ρ M).st fun v M1 => byT M1 v .no ((body c ρ M1).thn fun ρ2 M2 => ih ρ2 M2) (.nx ρ M1)) n
def tWhl (t : Se) (body : Ss) : Ss := fun c ρ M => whlL t body c turns ρ M
def tExpr (e : Se) : Ss := fun c ρ M => (e c ρ M).st fun _ M1 => .nx ρ M1

/-! ### what a piece of the text means -/
mutual
def denE : E → Se
  | .var i => sVar i
  | .int i => sVal (.int i)
  | .bl k => sVal (.bl k)
  | .non => sVal .non
  | .str s => sVal (.str s)
  | .con v => sVal v
  | .gfn g => sVal (.fn g)
  | .tup f es => sTup f (denL es)
  | .tupS es => sTupS (denSt es)
  | .lst es => sLst (denL es)
  | .dnew t => sDnew t
  | .dct t ps => sDct t (denDs ps)
  | .bin op a c => s2 (evOp op) (denE a) (denE c)
  | .neg a => s1 negV (denE a)
  | .not a => s1 notV (denE a)
  | .and a c => sAnd (denE a) (denE c)
  | .or a c => sOr (denE a) (denE c)
  | .cmp op a c => s2 (evCm op) (denE a) (denE c)
  | .cmpR ne a c => sCmpR ne (denE a) (denE c)
  | .chain op op' a c d => sChain (evCm op) (evCm op') (denE a) (denE c) (denE d)
  | .ite t x y => sIte (denE t) (denE x) (denE y)
  | .idx a c => s2 evIdx (denE a) (denE c)
  | .cut a lo hi => sCut (denE a) (denO lo) (denO hi)
  | .rev a => s1 evRev (denE a)
  | .comp elt g it ifs own => sComp (denE elt) (denG g) (denI it) (denB ifs) own
  | .dcomp t k v g it ifs own => sDcomp t (denE k) (denE v) (denG g) (denI it) (denB ifs) own
  | .call g es => sCall g (denL es)
  | .bi b es => sBi (evBi b) (denL es)
  | .rngT t a => sRng t (denI a)
  | .me m o es => sMe (meKd m) (evMe m) (denE o) (denL es)
  | .never => sNo
def denL : List E → Sl
  | [] => lNil
  | e :: r => lCons (denE e) (denL r)
def denD : D → Se × Se
  | .kv k v => (denE k, denE v)
def denDs : List D → List (Se × Se)
  | [] => []
  | d :: r => denD d :: denDs r
def denA : A → Sl → Sl
  | .one e => lCons (denE e)
  | .star i => lStar (denI i)
def denSt : List A → Sl
  | [] => lNil
  | a :: r => denA a (denSt r)
def denI : I → Si
  | .rng1 a => iRng1 (denE a)
  | .rng2 a c => iRng2 (denE a) (denE c)
  | .enum a => iEnum (denE a)
  | .zip a c => iZip (denE a) (denE c)
  | .val e => iVal (denE e)
def denO : Option E → So
  | none => oNone
  | some e => oSome (denE e)
def denB : Option E → Sb
  | none => bYes
  | some e => bIf (denE e)
def denG : G → Sg
  | .name i => gName i
  | .tup gs => gTup (len gs) (denGl gs)
  | .sub o i => gSub (denE o) (denE i)
def denGl : List G → Sgl
  | [] => glNil
  | g :: r => glCons (denG g) (denGl r)
end
mutual
def denS : S → Ss
  | .set g e => tSet (denG g) (denE e)
  | .put o i e => tPut (denE o) (denE i) (denE e)
  | .aug i op e => tAug i op (denE e)
  | .ret e => tRet (denE e)
  | .retN => tRetN
  | .iff t x y => tIf (denE t) (denSs x) (denSs y)
  | .forr g it body => tFor (denG g) (denI it) (denSs body)
  | .whl t body => tWhl (denE t) (denSs body)
  | .expr e => tExpr (denE e)
  | .pass => tNil
  | .never => tNo
def denSs : List S → Ss
  | [] => tNil
  | s :: r => tSeq (denS s) (denSs r)
end

structure Fn where
  np : Nat
  nl : Nat
  body : Ss
/-- the names' values at the entry -/
def frame (as : List PV) (k : Nat) : Rho := lr (nr [] (fun _ r => none :: r) k) (fun a _ r => some a :: r) as
/-- behind a call: the callee's own objects are dropped, where that can be -/
def drop (b : Nat) (M : Mem) (v : PV) : Res PV := yes (Nat.ble (len M) b) (.ok v M) (yes (below b deep v) (.ok v (takeL M b))
  (v.onR (.ok v M) fun i => opt (nth M i) (.ok v M) fun o => opt o.mine (.ok v M) fun xs => yes (allL (below b deep) xs) (.ok (.ref b) (app (takeL M b) [.lst xs])) (.ok v M)))
def SR.out (r : SR) (b : Nat) : Res PV :=
  SR.rec (motive := fun _ => Res PV) (fun _ M => drop b M .non) (fun v M => drop b M v) (fun c vs M => .exc c vs (takeL M b)) .no (fun n _ ih => Res.ch n ih) r
/-- a function's body run, calls by cf -/
def run (f : Fn) (cf : Nat → List PV → Mem → Res PV) (as : List PV) (M : Mem) : Res PV :=
  yes (Nat.beq (len as) f.np) ((f.body ⟨cf, len M⟩ (frame as (Nat.sub f.nl f.np)) M).out (len M)) .no
abbrev Spec := List PV → Mem → Res PV
/-- functions, to the call depth k; some by contracts -/
def callF (P : Nat → Option Fn) (S : Nat → Option Spec) (k : Nat) : Nat → List PV → Mem → Res PV := nr (fun g => opt (S g) (fun _ _ => .no) fun s => s)
  (fun _ ih g => opt (S g) (fun as M => opt (P g) .no fun f => run f ih as M) fun s => s) k
end Ev

set_option Elab.async false
set_option linter.all false
set_option maxRecDepth 100000
set_option maxHeartbeats 1000000
/-! Sa: the evaluator's own lists are the library's; values and memory against the abstract heap. -/
namespace Ev
section
variable {α β : Type}
theorem nth_eq (l : List α) (n : Nat) : nth l n = l[n]? := by
  induction l generalizing n with
  | nil => rfl
  | cons x r ih => cases n with
    | zero => rfl
    | succ n => exact ih n
theorem len_eq (l : List α) : len l = l.length := by
  induction l with
  | nil => rfl
  | cons x r ih => exact congrArg Nat.succ ih
theorem app_eq (l m : List α) : app l m = l ++ m := by
  induction l with
  | nil => rfl
  | cons x r ih => exact congrArg (x :: ·) ih
theorem mapL_eq (f : α → β) (l : List α) : mapL f l = l.map f := by
  induction l with
  | nil => rfl
  | cons x r ih => exact congrArg (f x :: ·) ih
theorem allL_eq (p : α → Bool) (l : List α) : allL p l = l.all p := by
  induction l with
  | nil => rfl
  | cons x r ih =>
    show yes (p x) (allL p r) false = (p x && r.all p)
    rw [ih]; cases p x <;> rfl
theorem revA_eq (l acc : List α) : revA l acc = l.reverse ++ acc := by
  induction l generalizing acc with
  | nil => rfl
  | cons x r ih => rw [List.reverse_cons, List.append_assoc]; exact ih (x :: acc)
theorem rev_eq (l : List α) : rev l = l.reverse := by
  show revA l [] = _
  rw [revA_eq, List.append_nil]
theorem takeL_eq (l : List α) (n : Nat) : takeL l n = l.take n := by
  induction l generalizing n with
  | nil => cases n <;> rfl
  | cons x r ih => cases n with
    | zero => rfl
    | succ n => exact congrArg (x :: ·) (ih n)
theorem dropL_eq (l : List α) (n : Nat) : dropL n l = l.drop n := by
  induction n generalizing l with
  | zero => rfl
  | succ n ih => cases l with
    | nil => rfl
    | cons x r => exact ih r
theorem setL_eq (l : List α) (v : α) (n : Nat) : setL l v n = l.set n v := by
  induction l generalizing n with
  | nil => cases n <;> rfl
  | cons x r ih => cases n with
    | zero => rfl
    | succ n => exact congrArg (x :: ·) (ih n)
theorem delL_eq (l : List α) (n : Nat) : delL l n = l.eraseIdx n := by
  induction l generalizing n with
  | nil => cases n <;> rfl
  | cons x r ih => cases n with
    | zero => rfl
    | succ n => exact congrArg (x :: ·) (ih n)
theorem rep_eq (l : List α) (n : Nat) : rep l n = (List.replicate n l).flatten := by
  induction n with
  | zero => rfl
  | succ n ih =>
    show app l (rep l n) = _
    rw [app_eq, ih, List.replicate_succ, List.flatten_cons]
theorem lc_eq (l : List α) (n : β) (c : α → List α → β) : lc l n c = match l with | [] => n | x :: r => c x r := by cases l <;> rfl
theorem yes_true (x y : β) : yes true x y = x := rfl
theorem yes_false (x y : β) : yes false x y = y := rfl
theorem opt_some (a : α) (d : β) (f : α → β) : opt (some a) d f = f a := rfl
theorem opt_none (d : β) (f : α → β) : opt none d f = d := rfl
theorem yes_some {k : Bool} {x : β} {r : β} (h : yes k (some x) none = some r) : k = true ∧ x = r := by
  cases k
  · cases h
  · exact ⟨rfl, Option.some.inj h⟩
end
theorem natBle {a b : Nat} : Nat.ble a b = true ↔ a ≤ b := Nat.ble_eq ▸ Iff.rfl
theorem intEq_iff (i j : Int) : intEq i j = (i == j) := by
  rw [Bool.eq_iff_iff, beq_iff_eq]
  cases i with
  | ofNat a => cases j with
    | ofNat b => show Nat.beq a b = true ↔ _; rw [Nat.beq_eq]; constructor <;> intro h; rw [h]; exact Int.ofNat.inj h
    | negSucc b => exact ⟨fun h => (by cases h), fun h => (by cases h)⟩
  | negSucc a => cases j with
    | ofNat b => exact ⟨fun h => (by cases h), fun h => (by cases h)⟩
    | negSucc b => show Nat.beq a b = true ↔ _; rw [Nat.beq_eq]; constructor <;> intro h; rw [h]; exact Int.negSucc.inj h
theorem intLe_iff (i j : Int) : intLe i j = decide (i ≤ j) := by
  rw [Bool.eq_iff_iff, decide_eq_true_iff]
  cases i with
  | ofNat a => cases j with
    | ofNat b => show Nat.ble a b = true ↔ _; rw [Nat.ble_eq]; show _ ↔ (a : Int) ≤ (b : Int); omega
    | negSucc b => exact ⟨fun h => (by cases h), fun h => (by have e : Int.ofNat a ≤ Int.negSucc b := h; have := Int.negSucc_lt_zero b; have h2 : (0 : Int) ≤ Int.ofNat a := Int.natCast_nonneg a; omega)⟩
  | negSucc a => cases j with
    | ofNat b => exact ⟨fun _ => (by have := Int.negSucc_lt_zero a; have h2 : (0 : Int) ≤ Int.ofNat b := Int.natCast_nonneg b; omega), fun _ => rfl⟩
    | negSucc b => show Nat.ble b a = true ↔ _; rw [Nat.ble_eq, Int.negSucc_eq, Int.negSucc_eq]; omega
theorem intLt_iff (i j : Int) : intLt i j = decide (i < j) := by
  rw [Bool.eq_iff_iff, decide_eq_true_iff]
  cases i with
  | ofNat a => cases j with
    | ofNat b => show Nat.ble (a + 1) b = true ↔ _; rw [Nat.ble_eq]; show _ ↔ (a : Int) < (b : Int); omega
    | negSucc b => exact ⟨fun h => (by cases h), fun h => (by have e : Int.ofNat a < Int.negSucc b := h; have := Int.negSucc_lt_zero b; have h2 : (0 : Int) ≤ Int.ofNat a := Int.natCast_nonneg a; omega)⟩
  | negSucc a => cases j with
    | ofNat b => exact ⟨fun _ => (by have := Int.negSucc_lt_zero a; have h2 : (0 : Int) ≤ Int.ofNat b := Int.natCast_nonneg b; omega), fun _ => rfl⟩
    | negSucc b => show Nat.ble (b + 1) a = true ↔ _; rw [Nat.ble_eq, Int.negSucc_eq, Int.negSucc_eq]; omega
theorem strEq_iff (s t : List Nat) : strEq s t = decide (s = t) := by
  rw [Bool.eq_iff_iff, decide_eq_true_iff]
  induction s generalizing t with
  | nil => cases t with
    | nil => exact ⟨fun _ => rfl, fun _ => rfl⟩
    | cons b r => exact ⟨fun h => (by cases h), fun h => (by cases h)⟩
  | cons a s ih => cases t with
    | nil => exact ⟨fun h => (by cases h), fun h => (by cases h)⟩
    | cons b r =>
      show yes (Nat.beq a b) (strEq s r) false = true ↔ _
      cases h : Nat.beq a b with
      | true => rw [Nat.beq_eq] at h; show strEq s r = true ↔ _; rw [ih]; simp [h]
      | false =>
        have h' : a ≠ b := fun e => by rw [← Nat.beq_eq, h] at e; cases e
        exact ⟨fun q => (by cases q), fun q => absurd (List.cons.inj q).1 h'⟩
end Ev

namespace Ev
open PySem PySem.Spec PyProof.Rows L2
/-! ### values against the abstract heap -/
def txt (s : List Nat) : Str := ⟨s.toArray⟩
def TxOk (s : List Nat) : Prop := (∀ c ∈ s, c < 1114112) ∧ s.length ≤ sizeLine
/-- a tuple; f: its record is held as it stands (no dict of its own) -/
def TupAt (f : Bool) (H : Hp) (a : Addr) (vs : List V) : Prop := match f with
  | false => H a = some (.tup vs)
  | true => ∃ o : PySem.Obj, o.dict = none ∧ H a = some (.frz o (.tup vs))
theorem TupAt.sq {K : PySem.W.Frag} {f : Bool} {H : Hp} {a : Addr} {vs : List V} (h : TupAt f H a vs) : SqT K H a vs := by
  cases f with
  | false => exact .inl (.inl h)
  | true => obtain ⟨o, _, h⟩ := h; exact .inl (.inr ⟨o, h⟩)
mutual
inductive RV (K : PySem.W.Frag) (H : Hp) (μ : List Addr) : PV → V → Prop
  | non : RV K H μ .non .non
  | bl (k : Bool) : RV K H μ (.bl k) (.bl k)
  | int (i : Int) : RV K H μ (.int i) (.int i)
  | str (s : List Nat) (h : TxOk s) : RV K H μ (.str s) (.str (txt s))
  | tup {f : Bool} {a : Addr} {xs : List PV} {vs : List V} : TupAt f H a vs → RVs K H μ xs vs → RV K H μ (.tup f xs) (.ref a)
  | ref {i : Nat} {a : Addr} : μ[i]? = some a → RV K H μ (.ref i) (.ref a)
inductive RVs (K : PySem.W.Frag) (H : Hp) (μ : List Addr) : List PV → List V → Prop
  | nil : RVs K H μ [] []
  | cons {x : PV} {v : V} {xs : List PV} {vs : List V} : RV K H μ x v → RVs K H μ xs vs → RVs K H μ (x :: xs) (v :: vs)
end
section
variable {K : PySem.W.Frag} {H H' H2 : Hp} {μ μ' μ2 : List Addr} {M M' M2 : Mem} {b : Nat}
theorem RVs.length : ∀ {xs : List PV} {vs : List V}, RVs K H μ xs vs → xs.length = vs.length
  | _, _, .nil => rfl
  | _, _, .cons _ r => congrArg Nat.succ r.length
theorem RVs.get : ∀ {xs : List PV} {vs : List V} {i : Nat} {x : PV}, RVs K H μ xs vs → xs[i]? = some x → ∃ v, vs[i]? = some v ∧ RV K H μ x v
  | _, _, _, _, .nil, e => by simp at e
  | _, _, 0, _, .cons r _, e => by simp at e; subst e; exact ⟨_, rfl, r⟩
  | _, _, i + 1, x, .cons _ r, e => by
    obtain ⟨v, h1, h2⟩ := RVs.get (i := i) (x := x) r (by simpa using e)
    exact ⟨v, by simpa using h1, h2⟩
theorem RVs.getV : ∀ {xs : List PV} {vs : List V} {i : Nat} {v : V}, RVs K H μ xs vs → vs[i]? = some v → ∃ x, xs[i]? = some x ∧ RV K H μ x v
  | _, _, _, _, .nil, e => by simp at e
  | _, _, 0, _, .cons r _, e => by simp at e; subst e; exact ⟨_, rfl, r⟩
  | _, _, i + 1, x, .cons _ r, e => by
    obtain ⟨v, h1, h2⟩ := RVs.getV (i := i) (v := x) r (by simpa using e)
    exact ⟨v, by simpa using h1, h2⟩
theorem RVs.append : ∀ {xs ys : List PV} {vs ws : List V}, RVs K H μ xs vs → RVs K H μ ys ws → RVs K H μ (xs ++ ys) (vs ++ ws)
  | _, _, _, _, .nil, s => s
  | _, _, _, _, .cons r t, s => .cons r (t.append s)
theorem RVs.take : ∀ {xs : List PV} {vs : List V} (n : Nat), RVs K H μ xs vs → RVs K H μ (xs.take n) (vs.take n)
  | _, _, 0, _ => by simpa using .nil
  | _, _, _ + 1, .nil => by simpa using .nil
  | _, _, n + 1, .cons r t => by simpa using .cons r (t.take n)
theorem RVs.drop : ∀ {xs : List PV} {vs : List V} (n : Nat), RVs K H μ xs vs → RVs K H μ (xs.drop n) (vs.drop n)
  | _, _, 0, r => by simpa using r
  | _, _, _ + 1, .nil => by simpa using .nil
  | _, _, n + 1, .cons r t => by simpa using t.drop n
theorem RVs.set : ∀ {xs : List PV} {vs : List V} {x : PV} {v : V} (n : Nat), RV K H μ x v → RVs K H μ xs vs → RVs K H μ (xs.set n x) (vs.set n v)
  | _, _, _, _, _, _, .nil => by simpa using .nil
  | _, _, _, _, 0, q, .cons r t => by simpa using .cons q t
  | _, _, _, _, n + 1, q, .cons r t => by simpa using .cons r (t.set n q)
theorem RVs.erase : ∀ {xs : List PV} {vs : List V} (n : Nat), RVs K H μ xs vs → RVs K H μ (xs.eraseIdx n) (vs.eraseIdx n)
  | _, _, _, .nil => by simpa using .nil
  | _, _, 0, .cons r t => by simpa using t
  | _, _, n + 1, .cons r t => by simpa using .cons r (t.erase n)
theorem RVs.reverse {xs : List PV} {vs : List V} (h : RVs K H μ xs vs) : RVs K H μ xs.reverse vs.reverse := by
  induction xs generalizing vs with
  | nil => cases h; simpa using .nil
  | cons x r ih => cases h with
    | cons q t => simpa using (ih t).append (.cons q .nil)
theorem RVs.rep {xs : List PV} {vs : List V} (h : RVs K H μ xs vs) : ∀ k : Nat, RVs K H μ (List.replicate k xs).flatten (List.replicate k vs).flatten
  | 0 => by simpa using .nil
  | k + 1 => by rw [List.replicate_succ, List.replicate_succ, List.flatten_cons, List.flatten_cons]; exact h.append (h.rep k)

/-- keys of dicts -/
def keyOf : PV → Option Key
  | .int i => some (.inl i)
  | .str s => some (.inr (txt s))
  | _ => none
def keysOf : List PV → Option (List Key)
  | [] => some []
  | x :: r => match keyOf x, keysOf r with | some k, some l => some (k :: l) | _, _ => none
def KeyTx : PV → Prop | .str s => TxOk s | _ => True
/-- entries of a dict with ints and texts as keys -/
inductive RD (K : PySem.W.Frag) (H : Hp) (μ : List Addr) : List (PV × PV) → List (Key × V) → Prop
  | nil : RD K H μ [] []
  | cons {k v : PV} {q : Key} {w : V} {l : List (PV × PV)} {m : List (Key × V)} : keyOf k = some q → KeyTx k → RV K H μ v w → RD K H μ l m → RD K H μ ((k, v) :: l) ((q, w) :: m)
/-- entries of a dict with tuples of these as keys -/
inductive RT (K : PySem.W.Frag) (H : Hp) (μ : List Addr) : List (PV × PV) → List (List Key × V) → Prop
  | nil : RT K H μ [] []
  | cons {ks : List PV} {v : PV} {q : List Key} {w : V} {l : List (PV × PV)} {m : List (List Key × V)} : keysOf ks = some q → (∀ k ∈ ks, KeyTx k) → RV K H μ v w → RT K H μ l m → RT K H μ ((.tup false ks, v) :: l) ((q, w) :: m)
/-- a list that never changes: the script -/
def SqF (K : PySem.W.Frag) (H : Hp) (a : Addr) (xs : List V) : Prop := (∃ o, H a = some (.frz o (.lst xs))) ∨
  ∃ (o : PySem.Obj) (its : Array Value) (n : Nat), K.lookup a = some o ∧ o.cls = .type "list" ∧ o.dict = none ∧ o.data = .seq its n ∧ its.size ≤ sizeLine ∧ Vals xs its.toList
theorem SqF.sq {K : PySem.W.Frag} {H : Hp} {a : Addr} {xs : List V} (h : SqF K H a xs) : SqL K H a xs := h.imp (fun ⟨o, e⟩ => .inr ⟨o, e⟩) id
def Own : Obj → Prop | .ro _ => False | _ => True
/-- what an object is that nobody looks into, by its kind: 0: a list of three ints -/
def BoxOk : Nat → List V → Prop
  | 0, vs => ∃ i j l : Int, vs = [.int i, .int j, .int l]
  | _, _ => False
/-- an object -/
inductive RO (K : PySem.W.Frag) (H : Hp) (μ : List Addr) (a : Addr) : Obj → Prop
  | lst {xs : List PV} {vs : List V} : H a = some (.lst vs) → RVs K H μ xs vs → RO K H μ a (.lst xs)
  | ro {xs : List PV} {vs : List V} : SqF K H a vs → RVs K H μ xs vs → RO K H μ a (.ro xs)
  | dk {kvs : List (PV × PV)} {m : List (Key × V)} : H a = some (.dK m) → RD K H μ kvs m → RO K H μ a (.dk kvs)
  | dt {kvs : List (PV × PV)} {m : List (List Key × V)} : H a = some (.dT m) → RT K H μ kvs m → RO K H μ a (.dt kvs)
  | box {k : Nat} {vs : List V} : H a = some (.lst vs) → BoxOk k vs → RO K H μ a (.box k)
/-- the memory: b, where the frame's own objects begin -/
structure RM (K : PySem.W.Frag) (b : Nat) (H : Hp) (μ : List Addr) (M : Mem) : Prop where
  len : μ.length = M.length
  nd : ∀ (i j : Nat) (a : Addr) (o o' : Obj), μ[i]? = some a → μ[j]? = some a → M[i]? = some o → M[j]? = some o' → Own o → Own o' → i = j
  obj : ∀ (i : Nat) (a : Addr) (o : Obj), μ[i]? = some a → M[i]? = some o → RO K H μ a o
  base : b ≤ M.length

/-! ### references -/
mutual
/-- no reference at or above c -/
inductive Low (c : Nat) : PV → Prop
  | non : Low c .non
  | bl (k) : Low c (.bl k)
  | int (i) : Low c (.int i)
  | str (s) : Low c (.str s)
  | fn (k) : Low c (.fn k)
  | tup {f xs} : Lows c xs → Low c (.tup f xs)
  | ref {i} : i < c → Low c (.ref i)
inductive Lows (c : Nat) : List PV → Prop
  | nil : Lows c []
  | cons {x xs} : Low c x → Lows c xs → Lows c (x :: xs)
end
theorem Lows.mem {c : Nat} : ∀ {xs : List PV}, Lows c xs ↔ ∀ x ∈ xs, Low c x
  | [] => ⟨fun _ _ h => by simp at h, fun _ => .nil⟩
  | y :: r => by
    constructor
    · intro h x hx
      cases h with
      | cons h1 h2 =>
        rcases List.mem_cons.mp hx with rfl | hx
        · exact h1
        · exact Lows.mem.mp h2 x hx
    · exact fun h => .cons (h y List.mem_cons_self) (Lows.mem.mpr fun x hx => h x (List.mem_cons_of_mem _ hx))
mutual
theorem Low.mono {c d : Nat} (h : c ≤ d) : ∀ {v : PV}, Low c v → Low d v
  | _, .non => .non
  | _, .bl k => .bl k
  | _, .int k => .int k
  | _, .str k => .str k
  | _, .fn k => .fn k
  | _, .tup l => .tup (Lows.mono h l)
  | _, .ref q => .ref (Nat.lt_of_lt_of_le q h)
theorem Lows.mono {c d : Nat} (h : c ≤ d) : ∀ {v : List PV}, Lows c v → Lows d v
  | _, .nil => .nil
  | _, .cons l r => .cons (Low.mono h l) (Lows.mono h r)
end
def LowO (c : Nat) : Obj → Prop
  | .lst xs => Lows c xs
  | .ro xs => Lows c xs
  | .dk kvs => ∀ p ∈ kvs, Low c p.2
  | .dt kvs => ∀ p ∈ kvs, Low c p.2
  | .box _ => True
/-- the first c objects hold no reference at or above c -/
def Closed (c : Nat) (M : Mem) : Prop := ∀ (i : Nat) (o : Obj), i < c → M[i]? = some o → LowO c o
mutual
theorem RV.low : ∀ {x : PV} {v : V}, RV K H μ x v → Low μ.length x
  | _, _, .non => .non
  | _, _, .bl k => .bl k
  | _, _, .int k => .int k
  | _, _, .str k _ => .str k
  | _, _, .tup _ l => .tup (RVs.low l)
  | _, _, .ref e => .ref (List.getElem?_eq_some_iff.mp e).1
theorem RVs.low : ∀ {x : List PV} {v : List V}, RVs K H μ x v → Lows μ.length x
  | _, _, .nil => .nil
  | _, _, .cons l r => .cons (RV.low l) (RVs.low r)
end
theorem RD.low {l : List (PV × PV)} {m : List (Key × V)} (h : RD K H μ l m) : ∀ p ∈ l, Low μ.length p.2 := by
  induction h with
  | nil => intro p hp; simp at hp
  | cons _ _ hv _ ih =>
    intro p hp
    rcases List.mem_cons.mp hp with rfl | hp
    · exact hv.low
    · exact ih p hp
theorem RT.low {l : List (PV × PV)} {m : List (List Key × V)} (h : RT K H μ l m) : ∀ p ∈ l, Low μ.length p.2 := by
  induction h with
  | nil => intro p hp; simp at hp
  | cons _ _ hv _ ih =>
    intro p hp
    rcases List.mem_cons.mp hp with rfl | hp
    · exact hv.low
    · exact ih p hp
theorem RO.low {a : Addr} {o : Obj} (h : RO K H μ a o) : LowO μ.length o := by
  cases h with
  | lst _ r => exact r.low
  | ro _ r => exact r.low
  | dk _ r => exact r.low
  | dt _ r => exact r.low
  | box _ _ => exact trivial
theorem RM.closed (h : RM K b H μ M) : Closed M.length M := fun i o hi ho => by
  have hi' : i < μ.length := by rw [h.len]; exact hi
  rw [← h.len]
  exact (h.obj i _ o (List.getElem?_eq_getElem hi') ho).low
theorem RM.lt (h : RM K b H μ M) {i : Nat} {o : Obj} (e : M[i]? = some o) : ∃ a, μ[i]? = some a ∧ RO K H μ a o := by
  have hi : i < μ.length := by rw [h.len]; exact (List.getElem?_eq_some_iff.mp e).1
  exact ⟨μ[i], List.getElem?_eq_getElem hi, h.obj i _ o (List.getElem?_eq_getElem hi) e⟩
theorem RM.at (h : RM K b H μ M) {i : Nat} {a : Addr} (e : μ[i]? = some a) : ∃ o, M[i]? = some o ∧ RO K H μ a o := by
  have hi : i < M.length := by rw [← h.len]; exact (List.getElem?_eq_some_iff.mp e).1
  exact ⟨M[i], List.getElem?_eq_getElem hi, h.obj i a _ e (List.getElem?_eq_getElem hi)⟩
/-! ### what may come behind -/
/-- no object of one's own stands at a -/
def Free (μ : List Addr) (M : Mem) (a : Addr) : Prop := ∀ (i : Nat) (o : Obj), μ[i]? = some a → M[i]? = some o → ¬ Own o
structure Ext (b : Nat) (H : Hp) (μ : List Addr) (M : Mem) (H' : Hp) (μ' : List Addr) (M' : Mem) : Prop where
  pre : ∃ ν, μ' = μ ++ ν ∧ ∀ a ∈ ν, H a = none
  keep : ∀ a o, H a = some o → Free μ M a → H' a = some o
  kind : ∀ i o', i < μ.length → M'[i]? = some o' → Own o' → ∃ o, M[i]? = some o ∧ Own o
  frz : ∀ a o u, H a = some (.frz o u) → H' a = some (.frz o u)
  tup : ∀ a xs, H a = some (.tup xs) → H' a = some (.tup xs)
  dom : ∀ a, H a ≠ none → H' a ≠ none
  clo : ∀ c, c ≤ b → Closed c M → Closed c M'
theorem Ext.refl : Ext b H μ M H μ M := ⟨⟨[], by simp, fun _ h => by simp at h⟩, fun _ _ e _ => e, fun i o _ e w => ⟨o, e, w⟩, fun _ _ _ e => e, fun _ _ e => e, fun _ e => e, fun _ _ h => h⟩
theorem Ext.free (x : Ext b H μ M H' μ' M') {a : Addr} {o : HO} (e : H a = some o) (f : Free μ M a) : Free μ' M' a := fun i o' h1 h2 w => by
  obtain ⟨ν, q, hn⟩ := x.pre
  by_cases hi : i < μ.length
  · obtain ⟨u, h3, w'⟩ := x.kind i o' hi h2 w
    rw [q, List.getElem?_append_left hi] at h1
    exact f i u h1 h3 w'
  · rw [q, List.getElem?_append_right (by omega)] at h1
    rw [hn a (List.mem_of_getElem? h1)] at e; cases e
theorem Ext.mem (x : Ext b H μ M H' μ' M') {a : Addr} (h : a ∈ μ') : a ∈ μ ∨ H a = none := by
  obtain ⟨ν, e, hn⟩ := x.pre
  rw [e] at h
  rcases List.mem_append.mp h with h | h
  · exact .inl h
  · exact .inr (hn a h)
theorem Ext.trans (x : Ext b H μ M H' μ' M') (y : Ext b H' μ' M' H2 μ2 M2) : Ext b H μ M H2 μ2 M2 := by
  obtain ⟨ν, e, hn⟩ := x.pre
  obtain ⟨ν', e', hn'⟩ := y.pre
  refine ⟨⟨ν ++ ν', by rw [e', e, List.append_assoc], fun a ha => ?_⟩, fun a o ho hm => y.keep a o (x.keep a o ho hm) (x.free ho hm), fun i o hi h w => ?_, fun a o u h => y.frz a o u (x.frz a o u h), fun a xs h => y.tup a xs (x.tup a xs h), fun a h => y.dom a (x.dom a h), fun c hc h => y.clo c hc (x.clo c hc h)⟩
  · rcases List.mem_append.mp ha with ha | ha
    · exact hn a ha
    · cases q : H a with
      | none => rfl
      | some o => exact absurd (hn' a ha) (x.dom a (by rw [q]; simp))
  · obtain ⟨o', h1, w1⟩ := y.kind i o (by rw [e, List.length_append]; omega) h w
    exact x.kind i o' hi h1 w1
theorem Ext.weak {b' : Nat} (x : Ext b H μ M H' μ' M') (h : b' ≤ b) : Ext b' H μ M H' μ' M' := ⟨x.pre, x.keep, x.kind, x.frz, x.tup, x.dom, fun c hc => x.clo c (Nat.le_trans hc h)⟩
theorem Ext.tupF (x : Ext b H μ M H' μ' M') {f : Bool} {a : Addr} {vs : List V} (h : TupAt f H a vs) : TupAt f H' a vs := by
  cases f with
  | false => exact x.tup a _ h
  | true => obtain ⟨o, h1, h2⟩ := h; exact ⟨o, h1, x.frz a o _ h2⟩
theorem Ext.tupR (x : Ext b H μ M H' μ' M') {a : Addr} {vs : List V} (h : SqT K H a vs) : SqT K H' a vs := by
  rcases h with (h | ⟨o, h⟩) | h
  · exact .inl (.inl (x.tup a _ h))
  · exact .inl (.inr ⟨o, x.frz a o _ h⟩)
  · exact .inr h
mutual
theorem RV.ext (x : Ext b H μ M H' μ' M') : ∀ {p : PV} {v : V}, RV K H μ p v → RV K H' μ' p v
  | _, _, .non => .non
  | _, _, .bl k => .bl k
  | _, _, .int k => .int k
  | _, _, .str k h => .str k h
  | _, _, .tup s l => .tup (x.tupF s) (RVs.ext x l)
  | _, _, .ref e => .ref (by
    obtain ⟨ν, q, _⟩ := x.pre
    rw [q, List.getElem?_append_left (List.getElem?_eq_some_iff.mp e).1]
    exact e)
theorem RVs.ext (x : Ext b H μ M H' μ' M') : ∀ {p : List PV} {v : List V}, RVs K H μ p v → RVs K H' μ' p v
  | _, _, .nil => .nil
  | _, _, .cons l r => .cons (RV.ext x l) (RVs.ext x r)
end
theorem RD.ext (x : Ext b H μ M H' μ' M') {p : List (PV × PV)} {v : List (Key × V)} (h : RD K H μ p v) : RD K H' μ' p v := by
  induction h with
  | nil => exact .nil
  | cons h1 h2 h3 _ ih => exact .cons h1 h2 (h3.ext x) ih
theorem RT.ext (x : Ext b H μ M H' μ' M') {p : List (PV × PV)} {v : List (List Key × V)} (h : RT K H μ p v) : RT K H' μ' p v := by
  induction h with
  | nil => exact .nil
  | cons h1 h2 h3 _ ih => exact .cons h1 h2 (h3.ext x) ih
theorem SqF.ext (x : Ext b H μ M H' μ' M') {a : Addr} {vs : List V} (h : SqF K H a vs) : SqF K H' a vs := h.imp (fun ⟨o, e⟩ => ⟨o, x.frz a o _ e⟩) id
theorem RO.ext (x : Ext b H μ M H' μ' M') {a : Addr} {o : Obj} (e : Own o → ∀ u, H a = some u → H' a = some u) (h : RO K H μ a o) : RO K H' μ' a o := by
  cases h with
  | lst h1 h2 => exact .lst (e trivial _ h1) (h2.ext x)
  | ro h1 h2 => exact .ro (h1.ext x) (h2.ext x)
  | dk h1 h2 => exact .dk (e trivial _ h1) (h2.ext x)
  | dt h1 h2 => exact .dt (e trivial _ h1) (h2.ext x)
  | box h1 h2 => exact .box (e trivial _ h1) h2
/-- an object of one's own is tracked -/
theorem RO.own {a : Addr} {o : Obj} (h : RO K H μ a o) (w : Own o) : H a ≠ none := by
  cases h with
  | lst h1 _ => rw [h1]; simp
  | ro _ _ => exact w.elim
  | dk h1 _ => rw [h1]; simp
  | dt h1 _ => rw [h1]; simp
  | box h1 _ => rw [h1]; simp
/-! ### the steps -/
/-- nothing that is tracked changes -/
theorem Ext.same (k : ∀ a o, H a = some o → H' a = some o) : Ext b H μ M H' μ M :=
  ⟨⟨[], by simp, fun _ h => by simp at h⟩, fun a o e _ => k a o e, fun i o _ e w => ⟨o, e, w⟩, fun a o u e => k a _ e, fun a xs e => k a _ e, fun a e => by
    cases q : H a with
    | none => exact absurd q e
    | some o => rw [k a o q]; simp, fun _ _ h => h⟩
theorem RM.same (m : RM K b H μ M) (k : ∀ a o, H a = some o → H' a = some o) : RM K b H' μ M :=
  ⟨m.len, m.nd, fun i a o h1 h2 => (m.obj i a o h1 h2).ext (Ext.same (b := b) (M := M) k) (fun _ => k a), m.base⟩
theorem keepNew {p : Addr} {o : HO} (h : H p = none) : ∀ a u, H a = some u → upd H p o a = some u := fun a u e => by
  rw [upd_ne (ne_of_none e h)]; exact e
/-- a new object -/
theorem Ext.push {p : Addr} {o : HO} {ob : Obj} (m : RM K b H μ M) (h : H p = none) : Ext b H μ M (upd H p o) (μ ++ [p]) (M ++ [ob]) := by
  have s := Ext.same (b := b) (μ := μ) (M := M) (keepNew (o := o) h)
  refine ⟨⟨[p], rfl, fun a ha => by simp at ha; rw [ha]; exact h⟩, s.keep, fun i o hi e w => ⟨o, by rw [List.getElem?_append_left (by rw [← m.len]; exact hi)] at e; exact e, w⟩, s.frz, s.tup, s.dom, fun c hc q i ob' hi ho => q i ob' hi ?_⟩
  rw [List.getElem?_append_left (Nat.lt_of_lt_of_le hi (Nat.le_trans hc m.base))] at ho
  exact ho
theorem RM.push {p : Addr} {o : HO} {ob : Obj} (m : RM K b H μ M) (h : H p = none) (r : RO K (upd H p o) (μ ++ [p]) p ob) : RM K b (upd H p o) (μ ++ [p]) (M ++ [ob]) := by
  have x := Ext.push (o := o) (ob := ob) m h
  have at_ : ∀ (i : Nat) (a : Addr) (u : Obj), (μ ++ [p])[i]? = some a → (M ++ [ob])[i]? = some u → (μ[i]? = some a ∧ M[i]? = some u) ∨ (i = μ.length ∧ a = p ∧ u = ob) := by
    intro i a u h1 h2
    by_cases hi : i < μ.length
    · rw [List.getElem?_append_left hi] at h1
      rw [List.getElem?_append_left (by rw [← m.len]; exact hi)] at h2
      exact .inl ⟨h1, h2⟩
    · have hl : i = μ.length := by
        have := (List.getElem?_eq_some_iff.mp h1).1
        rw [List.length_append] at this
        simp at this; omega
      subst hl
      rw [List.getElem?_append_right (Nat.le_refl _), Nat.sub_self] at h1
      rw [m.len, List.getElem?_append_right (Nat.le_refl _), Nat.sub_self] at h2
      cases h1; cases h2
      exact .inr ⟨rfl, rfl, rfl⟩
  refine ⟨by rw [List.length_append, List.length_append, m.len]; rfl, fun i j a u u' h1 h2 h3 h4 w1 w2 => ?_, fun i a u h1 h2 => ?_, ?_⟩
  · rcases at_ i a u h1 h3 with ⟨p1, p2⟩ | ⟨p1, p2, p3⟩ <;> rcases at_ j a u' h2 h4 with ⟨q1, q2⟩ | ⟨q1, q2, q3⟩
    · exact m.nd i j a u u' p1 q1 p2 q2 w1 w2
    · subst q2; exact absurd h ((m.obj i _ u p1 p2).own w1)
    · subst p2; exact absurd h ((m.obj j _ u' q1 q2).own w2)
    · rw [p1, q1]
  · rcases at_ i a u h1 h2 with ⟨p1, p2⟩ | ⟨p1, p2, p3⟩
    · exact (m.obj i a u p1 p2).ext x (fun _ => keepNew h a)
    · subst p2; subst p3; exact r
  · rw [List.length_append]; have := m.base; omega
/-- an object written -/
def Wr (o : HO) : Prop := (∀ ob u, o ≠ .frz ob u) ∧ ∀ xs, o ≠ .tup xs
theorem Ext.write {i : Nat} {a : Addr} {o o' : HO} {ob ob0 : Obj} (hi : μ[i]? = some a) (hM : M[i]? = some ob0) (w0 : Own ob0) (h : H a = some o) (w : Wr o) (hc : ∀ c, c ≤ b → i < c → Closed c M → LowO c ob) : Ext b H μ M (upd H a o') μ (M.set i ob) := by
  refine ⟨⟨[], by simp, fun _ h => by simp at h⟩, fun c u e hn => ?_, fun j u _ e w => ?_, fun c u z e => ?_, fun c xs e => ?_, fun c e => ?_, fun c hc' q j u hj hu => ?_⟩
  · rw [upd_ne (fun z => by subst z; exact hn i ob0 hi hM w0)]; exact e
  · by_cases hji : i = j
    · subst hji; exact ⟨ob0, hM, w0⟩
    · rw [List.getElem?_set_ne hji] at e; exact ⟨u, e, w⟩
  · rw [upd_ne (fun q => by subst q; rw [h] at e; cases e; exact w.1 _ _ rfl)]; exact e
  · rw [upd_ne (fun q => by subst q; rw [h] at e; cases e; exact w.2 _ rfl)]; exact e
  · by_cases q : c = a
    · subst q; rw [upd_same]; simp
    · rw [upd_ne q]; exact e
  · by_cases hji : i = j
    · subst hji
      by_cases hl : i < M.length
      · rw [List.getElem?_set_self hl] at hu
        cases hu
        exact hc c hc' hj q
      · rw [List.getElem?_eq_none (by rw [List.length_set]; omega)] at hu; cases hu
    · rw [List.getElem?_set_ne hji] at hu
      exact q j u hj hu
theorem RM.write {i : Nat} {a : Addr} {o o' : HO} {ob ob' : Obj} (m : RM K b H μ M) (x : Ext b H μ M (upd H a o') μ (M.set i ob)) (hi : μ[i]? = some a) (hM : M[i]? = some ob') (w' : Own ob') (r : RO K (upd H a o') μ a ob) : RM K b (upd H a o') μ (M.set i ob) := by
  have hl : i < M.length := (List.getElem?_eq_some_iff.mp hM).1
  have at_ : ∀ (j : Nat) (u : Obj), (M.set i ob)[j]? = some u → ∃ u', M[j]? = some u' ∧ ((j = i ∧ u = ob) ∨ (j ≠ i ∧ u' = u)) := by
    intro j u h
    by_cases hji : i = j
    · subst hji
      rw [List.getElem?_set_self hl] at h; cases h
      exact ⟨ob', hM, .inl ⟨rfl, rfl⟩⟩
    · rw [List.getElem?_set_ne hji] at h
      exact ⟨u, h, .inr ⟨fun e => hji e.symm, rfl⟩⟩
  refine ⟨by rw [List.length_set]; exact m.len, fun j k c u u' h1 h2 h3 h4 w1 w2 => ?_, fun j c u h1 h2 => ?_, by rw [List.length_set]; exact m.base⟩
  · obtain ⟨v, p1, p2⟩ := at_ j u h3
    obtain ⟨v', q1, q2⟩ := at_ k u' h4
    refine m.nd j k c v v' h1 h2 p1 q1 ?_ ?_
    · rcases p2 with ⟨e, _⟩ | ⟨_, e⟩
      · subst e; rw [hM] at p1; cases p1; exact w'
      · subst e; exact w1
    · rcases q2 with ⟨e, _⟩ | ⟨_, e⟩
      · subst e; rw [hM] at q1; cases q1; exact w'
      · subst e; exact w2
  · obtain ⟨v, p1, p2⟩ := at_ j u h2
    rcases p2 with ⟨e, e2⟩ | ⟨e, e2⟩
    · subst e; subst e2; rw [hi] at h1; cases h1; exact r
    · subst e2
      refine (m.obj j c v h1 p1).ext x fun w1 y e3 => ?_
      rw [upd_ne (fun z => by subst z; exact e (m.nd j i c v ob' h1 hi p1 hM w1 w'))]; exact e3
end
/-! ### another heap, the same tuples -/
section
variable {K : PySem.W.Frag} {H H' H2 : Hp} {μ μ' μ2 : List Addr} {M M' M2 : Mem} {b : Nat}
mutual
theorem RV.cong (h : ∀ f a vs, TupAt f H a vs → TupAt f H' a vs) : ∀ {p : PV} {v : V}, RV K H μ p v → RV K H' μ p v
  | _, _, .non => .non
  | _, _, .bl k => .bl k
  | _, _, .int k => .int k
  | _, _, .str k q => .str k q
  | _, _, .tup s l => .tup (h _ _ _ s) (RVs.cong h l)
  | _, _, .ref e => .ref e
theorem RVs.cong (h : ∀ f a vs, TupAt f H a vs → TupAt f H' a vs) : ∀ {p : List PV} {v : List V}, RVs K H μ p v → RVs K H' μ p v
  | _, _, .nil => .nil
  | _, _, .cons l r => .cons (RV.cong h l) (RVs.cong h r)
end
theorem RD.cong (h : ∀ f a vs, TupAt f H a vs → TupAt f H' a vs) {p : List (PV × PV)} {v : List (Key × V)} (r : RD K H μ p v) : RD K H' μ p v := by
  induction r with
  | nil => exact .nil
  | cons h1 h2 h3 _ ih => exact .cons h1 h2 (h3.cong h) ih
theorem RT.cong (h : ∀ f a vs, TupAt f H a vs → TupAt f H' a vs) {p : List (PV × PV)} {v : List (List Key × V)} (r : RT K H μ p v) : RT K H' μ p v := by
  induction r with
  | nil => exact .nil
  | cons h1 h2 h3 _ ih => exact .cons h1 h2 (h3.cong h) ih
theorem tup_upd {D : Addr} {o o' : HO} (e : H D = some o) (w : Wr o) : ∀ f a vs, TupAt f H a vs → TupAt f (upd H D o') a vs := fun f a vs h => by
  cases f with
  | false =>
    have h : H a = some (.tup vs) := h
    show (upd H D o') a = some (.tup vs)
    rw [upd_ne (fun z => by subst z; rw [e] at h; exact w.2 _ (Option.some.inj h))]; exact h
  | true =>
    obtain ⟨u, h1, h⟩ := h
    refine ⟨u, h1, ?_⟩
    rw [upd_ne (fun z => by subst z; rw [e] at h; exact w.1 _ _ (Option.some.inj h))]; exact h
/-- an object that is not in the memory is written -/
theorem RM.redo {D : Addr} {o o' : HO} (m : RM K b H μ M) (e : H D = some o) (w : Wr o) (f : Free μ M D) : RM K b (upd H D o') μ M := by
  have hq := tup_upd (o' := o') e w
  refine ⟨m.len, m.nd, fun i a u h1 h2 => ?_, m.base⟩
  have ow : Own u → a ≠ D := fun w z => by subst z; exact f i u h1 h2 w
  cases m.obj i a u h1 h2 with
  | lst h3 h4 => exact .lst (by rw [upd_ne (ow trivial)]; exact h3) (h4.cong hq)
  | dk h3 h4 => exact .dk (by rw [upd_ne (ow trivial)]; exact h3) (h4.cong hq)
  | dt h3 h4 => exact .dt (by rw [upd_ne (ow trivial)]; exact h3) (h4.cong hq)
  | box h3 h4 => exact .box (by rw [upd_ne (ow trivial)]; exact h3) h4
  | ro h3 h4 =>
    refine .ro ?_ (h4.cong hq)
    rcases h3 with ⟨ob, h3⟩ | h3
    · exact .inl ⟨ob, by rw [upd_ne (fun z => by subst z; rw [e] at h3; exact w.1 _ _ (Option.some.inj h3))]; exact h3⟩
    · exact .inr h3
theorem Ext.redo {D : Addr} {o : HO} (x : Ext b H μ M H' μ' M') (n : H D = none) : Ext b H μ M (upd H' D o) μ' M' := by
  have ne : ∀ {a : Addr} {u : HO}, H a = some u → a ≠ D := fun {a u} h z => by subst z; rw [n] at h; cases h
  refine ⟨x.pre, fun a u e f => ?_, x.kind, fun a u z e => ?_, fun a xs e => ?_, fun a e => ?_, x.clo⟩
  · rw [upd_ne (ne e)]; exact x.keep a u e f
  · rw [upd_ne (ne e)]; exact x.frz a u z e
  · rw [upd_ne (ne e)]; exact x.tup a xs e
  · by_cases q : a = D
    · subst q; rw [upd_same]; simp
    · rw [upd_ne q]; exact x.dom a e
theorem free_new {D : Addr} (m : RM K b H μ M) (n : H D = none) : Free μ M D := fun i o h1 h2 w => (m.obj i D o h1 h2).own w n
mutual
theorem RV.app (ν : List Addr) : ∀ {p : PV} {v : V}, RV K H μ p v → RV K H (μ ++ ν) p v
  | _, _, .non => .non
  | _, _, .bl k => .bl k
  | _, _, .int k => .int k
  | _, _, .str k q => .str k q
  | _, _, .tup s l => .tup s (RVs.app ν l)
  | _, _, .ref e => .ref (by rw [List.getElem?_append_left (List.getElem?_eq_some_iff.mp e).1]; exact e)
theorem RVs.app (ν : List Addr) : ∀ {p : List PV} {v : List V}, RVs K H μ p v → RVs K H (μ ++ ν) p v
  | _, _, .nil => .nil
  | _, _, .cons l r => .cons (RV.app ν l) (RVs.app ν r)
end
theorem RD.app (ν : List Addr) {p : List (PV × PV)} {v : List (Key × V)} (r : RD K H μ p v) : RD K H (μ ++ ν) p v := by
  induction r with
  | nil => exact .nil
  | cons h1 h2 h3 _ ih => exact .cons h1 h2 (h3.app ν) ih
theorem RT.app (ν : List Addr) {p : List (PV × PV)} {v : List (List Key × V)} (r : RT K H μ p v) : RT K H (μ ++ ν) p v := by
  induction r with
  | nil => exact .nil
  | cons h1 h2 h3 _ ih => exact .cons h1 h2 (h3.app ν) ih
theorem RO.app (ν : List Addr) {a : Addr} {o : Obj} (h : RO K H μ a o) : RO K H (μ ++ ν) a o := by
  cases h with
  | lst h1 h2 => exact .lst h1 (h2.app ν)
  | ro h1 h2 => exact .ro h1 (h2.app ν)
  | dk h1 h2 => exact .dk h1 (h2.app ν)
  | dt h1 h2 => exact .dt h1 (h2.app ν)
  | box h1 h2 => exact .box h1 h2
/-- an object of the heap is taken into the memory -/
theorem RM.adopt {D : Addr} {ob : Obj} (m : RM K b H μ M) (f : Free μ M D) (r : RO K H μ D ob) : RM K b H (μ ++ [D]) (M ++ [ob]) := by
  have at_ : ∀ (i : Nat) (a : Addr) (u : Obj), (μ ++ [D])[i]? = some a → (M ++ [ob])[i]? = some u → (μ[i]? = some a ∧ M[i]? = some u) ∨ (i = μ.length ∧ a = D ∧ u = ob) := by
    intro i a u h1 h2
    by_cases hi : i < μ.length
    · rw [List.getElem?_append_left hi] at h1
      rw [List.getElem?_append_left (by rw [← m.len]; exact hi)] at h2
      exact .inl ⟨h1, h2⟩
    · have hl : i = μ.length := by
        have := (List.getElem?_eq_some_iff.mp h1).1
        rw [List.length_append] at this
        simp at this; omega
      subst hl
      rw [List.getElem?_append_right (Nat.le_refl _), Nat.sub_self] at h1
      rw [m.len, List.getElem?_append_right (Nat.le_refl _), Nat.sub_self] at h2
      cases h1; cases h2
      exact .inr ⟨rfl, rfl, rfl⟩
  refine ⟨by rw [List.length_append, List.length_append, m.len]; rfl, fun i j a u u' h1 h2 h3 h4 w1 w2 => ?_, fun i a u h1 h2 => ?_, ?_⟩
  · rcases at_ i a u h1 h3 with ⟨p1, p2⟩ | ⟨p1, p2, p3⟩ <;> rcases at_ j a u' h2 h4 with ⟨q1, q2⟩ | ⟨q1, q2, q3⟩
    · exact m.nd i j a u u' p1 q1 p2 q2 w1 w2
    · subst q2; exact absurd w1 (f i u p1 p2)
    · subst p2; exact absurd w2 (f j u' q1 q2)
    · rw [p1, q1]
  · rcases at_ i a u h1 h2 with ⟨p1, p2⟩ | ⟨p1, p2, p3⟩
    · exact (m.obj i a u p1 p2).app _
    · subst p2; subst p3; exact r.app _
  · rw [List.length_append]; have := m.base; omega
theorem Ext.adopt {D : Addr} {ob : Obj} (x : Ext b H μ M H' μ' M') (m : RM K b H' μ' M') (m0 : RM K b H μ M) (n : H D = none) : Ext b H μ M H' (μ' ++ [D]) (M' ++ [ob]) := by
  obtain ⟨ν, e, hn⟩ := x.pre
  have le : μ.length ≤ M'.length := by rw [← m.len, e, List.length_append]; omega
  refine ⟨⟨ν ++ [D], by rw [e, List.append_assoc], fun a ha => ?_⟩, x.keep, fun i o hi h w => x.kind i o hi (by rw [List.getElem?_append_left (by omega)] at h; exact h) w, x.frz, x.tup, x.dom, fun c hc h i o hi ho => ?_⟩
  · rcases List.mem_append.mp ha with ha | ha
    · exact hn a ha
    · simp at ha; subst ha; exact n
  · have := m.base
    exact x.clo c hc h i o hi (by rw [List.getElem?_append_left (by omega)] at ho; exact ho)
/-! ### the first c objects alone -/
mutual
theorem RV.cut {c : Nat} : ∀ {p : PV} {v : V}, Low c p → RV K H μ p v → RV K H (μ.take c) p v
  | _, _, _, .non => .non
  | _, _, _, .bl k => .bl k
  | _, _, _, .int k => .int k
  | _, _, _, .str k q => .str k q
  | _, _, .tup w, .tup s l => .tup s (RVs.cut w l)
  | _, _, .ref w, .ref e => .ref (by rw [List.getElem?_take_of_lt w]; exact e)
theorem RVs.cut {c : Nat} : ∀ {p : List PV} {v : List V}, Lows c p → RVs K H μ p v → RVs K H (μ.take c) p v
  | _, _, _, .nil => .nil
  | _, _, .cons w w', .cons l r => .cons (RV.cut w l) (RVs.cut w' r)
end
theorem RD.cut {c : Nat} {p : List (PV × PV)} {v : List (Key × V)} (r : RD K H μ p v) : (∀ q ∈ p, Low c q.2) → RD K H (μ.take c) p v := by
  induction r with
  | nil => exact fun _ => .nil
  | cons h1 h2 h3 _ ih => exact fun w => .cons h1 h2 (h3.cut (w _ List.mem_cons_self)) (ih fun q hq => w q (List.mem_cons_of_mem _ hq))
theorem RT.cut {c : Nat} {p : List (PV × PV)} {v : List (List Key × V)} (r : RT K H μ p v) : (∀ q ∈ p, Low c q.2) → RT K H (μ.take c) p v := by
  induction r with
  | nil => exact fun _ => .nil
  | cons h1 h2 h3 _ ih => exact fun w => .cons h1 h2 (h3.cut (w _ List.mem_cons_self)) (ih fun q hq => w q (List.mem_cons_of_mem _ hq))
theorem RO.cut {c : Nat} {a : Addr} {o : Obj} (h : RO K H μ a o) (w : LowO c o) : RO K H (μ.take c) a o := by
  cases h with
  | lst h1 h2 => exact .lst h1 (h2.cut w)
  | ro h1 h2 => exact .ro h1 (h2.cut w)
  | dk h1 h2 => exact .dk h1 (h2.cut w)
  | dt h1 h2 => exact .dt h1 (h2.cut w)
  | box h1 h2 => exact .box h1 h2
theorem RM.cut {c : Nat} (m : RM K b H μ M) (w : Closed c M) (hb : b ≤ c) (hc : c ≤ M.length) : RM K b H (μ.take c) (M.take c) := by
  refine ⟨by rw [List.length_take, List.length_take, m.len], fun i j a o o' h1 h2 h3 h4 => ?_, fun i a o h1 h2 => ?_, by rw [List.length_take]; omega⟩
  · rw [List.getElem?_take] at h1 h2 h3 h4
    by_cases hi : i < c
    · by_cases hj : j < c
      · rw [if_pos hi] at h1 h3; rw [if_pos hj] at h2 h4
        exact m.nd i j a o o' h1 h2 h3 h4
      · rw [if_neg hj] at h2; cases h2
    · rw [if_neg hi] at h1; cases h1
  · rw [List.getElem?_take] at h1 h2
    by_cases hi : i < c
    · rw [if_pos hi] at h1 h2
      exact (m.obj i a o h1 h2).cut (w i o hi h2)
    · rw [if_neg hi] at h1; cases h1
/-- behind a call: from the callee's side to the caller's -/
theorem Ext.ret {b' : Nat} (x : Ext M.length H μ M H' μ' M') (m0 : RM K b H μ M) (m : RM K b' H' μ' M') (hb : b ≤ M.length) : Ext b H μ M H' (μ'.take M.length) (M'.take M.length) := by
  obtain ⟨ν, e, hn⟩ := x.pre
  have e2 : μ'.take M.length = μ := by rw [e, ← m0.len, List.take_left]
  have gt : ∀ {i : Nat} {o : Obj}, (M'.take M.length)[i]? = some o → i < M.length ∧ M'[i]? = some o := fun {i o} h => by
    rw [List.getElem?_take] at h
    by_cases hi : i < M.length
    · rw [if_pos hi] at h; exact ⟨hi, h⟩
    · rw [if_neg hi] at h; cases h
  exact ⟨⟨[], by rw [e2, List.append_nil], fun _ h => by simp at h⟩, x.keep, fun i o hi h w => x.kind i o hi (gt h).2 w, x.frz, x.tup, x.dom, fun c hc h i o hi ho => x.clo c (Nat.le_trans hc hb) h i o hi (gt ho).2⟩
end
section
variable {K : PySem.W.Frag} {H H' H2 : Hp} {μ μ' μ2 : List Addr} {M M' M2 : Mem} {b : Nat}
/-- the names' values -/
structure RS (K : PySem.W.Frag) (H : Hp) (μ : List Addr) (ρ : Rho) (σ : L2.St) : Prop where
  len : σ.length = ρ.length
  get : ∀ (i : Nat) (v : PV), ρ[i]? = some (some v) → ∃ V, σ[i]? = some (some V) ∧ RV K H μ v V
theorem RS.ext {ρ : Rho} {σ : L2.St} (x : Ext b H μ M H' μ' M') (h : RS K H μ ρ σ) : RS K H' μ' ρ σ :=
  ⟨h.len, fun i v e => let ⟨w, h1, h2⟩ := h.get i v e; ⟨w, h1, h2.ext x⟩⟩
theorem RS.set {ρ : Rho} {σ : L2.St} (h : RS K H μ ρ σ) {i : Nat} {v : PV} {w : V} (r : RV K H μ v w) : RS K H μ (ρ.set i (some v)) (σ.set i (some w)) := by
  refine ⟨by rw [List.length_set, List.length_set]; exact h.len, fun j x e => ?_⟩
  by_cases hj : i = j
  · subst hj
    by_cases hi : i < ρ.length
    · rw [List.getElem?_set_self hi] at e
      cases e
      exact ⟨w, by rw [List.getElem?_set_self (by rw [h.len]; exact hi)], r⟩
    · rw [List.getElem?_eq_none (by rw [List.length_set]; omega)] at e; cases e
  · rw [List.getElem?_set_ne hj] at e
    rw [List.getElem?_set_ne hj]
    exact h.get j x e
theorem RS.wipe {ρ : Rho} {σ : L2.St} (h : RS K H μ ρ σ) : ∀ l : List Nat, RS K H μ (Ev.wipe ρ l) (L2.wipe σ l)
  | [] => h
  | i :: r => by
    have ih := h.wipe r
    show RS K H μ (setL (Ev.wipe ρ r) none i) ((L2.wipe σ r).set i none)
    rw [setL_eq]
    refine ⟨by rw [List.length_set, List.length_set]; exact ih.len, fun j x e => ?_⟩
    by_cases hj : i = j
    · subst hj
      by_cases hi : i < (Ev.wipe ρ r).length
      · rw [List.getElem?_set_self hi] at e; cases e
      · rw [List.getElem?_eq_none (by rw [List.length_set]; omega)] at e; cases e
    · rw [List.getElem?_set_ne hj] at e
      rw [List.getElem?_set_ne hj]
      exact ih.get j x e
end
end Ev

set_option Elab.async false
set_option linter.all false
set_option maxRecDepth 100000
set_option maxHeartbeats 1000000
/-! Sb: readings of the evaluator's terms; expressions by their parts. -/
namespace Ev
open PySem PySem.Spec PyProof.Rows L2

def Ok {α : Type} (r : Res α) (F : α → Mem → Prop) (E : Nat → List PV → Mem → Prop) : Prop := match r with
  | .ok a M => F a M
  | .exc k vs M => E k vs M
  | .no => False
  | .ch n f => ∀ i, i < n → Ok (f i) F E
theorem Ok.bind {α β : Type} {r : Res α} {f : α → Mem → Res β} {F : β → Mem → Prop} {E : Nat → List PV → Mem → Prop} : Ok (r.bind f) F E ↔ Ok r (fun a M => Ok (f a M) F E) E := by
  induction r with
  | ch n g ih => exact ⟨fun h i hi => (ih i).mp (h i hi), fun h i hi => (ih i).mpr (h i hi)⟩
  | _ => exact Iff.rfl
theorem Ok.mono {α : Type} {r : Res α} {F F' : α → Mem → Prop} {E E' : Nat → List PV → Mem → Prop} (h : Ok r F E) (h1 : ∀ a M, F a M → F' a M) (h2 : ∀ k vs M, E k vs M → E' k vs M) : Ok r F' E' := by
  induction r with
  | ok a M => exact h1 a M h
  | exc k vs M => exact h2 k vs M h
  | no => exact h
  | ch n g ih => exact fun i hi => ih i (h i hi)
/-- a result that is no exception -/
def NX {α : Type} (r : Res α) : Prop := match r with | .exc _ _ _ => False | .ch _ _ => False | _ => True
theorem Ok.val {α : Type} {r : Res α} {F : α → Mem → Prop} {E : Nat → List PV → Mem → Prop} (n : NX r) (h : Ok r F E) : ∃ a M, r = .ok a M ∧ F a M := by
  cases r with
  | ok a M => exact ⟨a, M, rfl, h⟩
  | exc k vs M => exact n.elim
  | no => exact h.elim
  | ch _ _ => exact n.elim
section
variable {α β : Type}
theorem nx_ok {a : α} {M : Mem} : NX (Res.ok a M) := trivial
theorem nx_no : NX (Res.no : Res α) := trivial
theorem nx_yes {k : Bool} {x y : Res α} (h1 : NX x) (h2 : NX y) : NX (yes k x y) := by cases k; exact h2; exact h1
theorem nx_opt {o : Option β} {d : Res α} {f : β → Res α} (h1 : NX d) (h2 : ∀ a, NX (f a)) : NX (opt o d f) := by cases o; exact h1; exact h2 _
theorem nx_el {v : PV} {n b i s t r f} (h1 : NX (n : Res α)) (h2 : ∀ k, NX (b k)) (h3 : ∀ k, NX (i k)) (h4 : ∀ k, NX (s k)) (h5 : ∀ k, NX (t k)) (h6 : ∀ k, NX (r k)) (h7 : ∀ k, NX (f k)) : NX (v.el n b i s t r f) := by
  cases v; exact h1; exact h2 _; exact h3 _; exact h4 _; exact h5 _; exact h6 _; exact h7 _
theorem nx_onI {v : PV} {d : Res α} {f : Int → Res α} (h1 : NX d) (h2 : ∀ k, NX (f k)) : NX (v.onI d f) := by cases v <;> first | exact h1 | exact h2 _
theorem nx_onB {v : PV} {d : Res α} {f : Bool → Res α} (h1 : NX d) (h2 : ∀ k, NX (f k)) : NX (v.onB d f) := by cases v <;> first | exact h1 | exact h2 _
theorem nx_onT {v : PV} {d : Res α} {f : List PV → Res α} (h1 : NX d) (h2 : ∀ k, NX (f k)) : NX (v.onT d f) := by cases v <;> first | exact h1 | exact h2 _
theorem nx_onR {v : PV} {d : Res α} {f : Nat → Res α} (h1 : NX d) (h2 : ∀ k, NX (f k)) : NX (v.onR d f) := by cases v <;> first | exact h1 | exact h2 _
theorem nx_lc {l : List β} {d : Res α} {f : β → List β → Res α} (h1 : NX d) (h2 : ∀ x r, NX (f x r)) : NX (lc l d f) := by cases l <;> first | exact h1 | exact h2 _ _
theorem nx_ic {i : Int} {f g : Nat → Res α} (h1 : ∀ n, NX (f n)) (h2 : ∀ n, NX (g n)) : NX (ic i f g) := by cases i <;> first | exact h1 _ | exact h2 _
end

/-- a frame: what is written, how functions are called, exceptions against the heap, what is wanted of them -/
structure Fr where
  K : PySem.W.Frag
  c : Fx
  RX : Hp → List Addr → Nat → List PV → Value → Option Addr → Prop
  W : Value → Option Addr → L2.St → Hp → Prop
section
variable (F : Fr) (H : Hp) (μ : List Addr) (M : Mem)
abbrev Fr.Ext (H' : Hp) (μ' : List Addr) (M' : Mem) : Prop := Ev.Ext F.c.b H μ M H' μ' M'
abbrev Fr.RM : Prop := Ev.RM F.K F.c.b H μ M
/-- what a value is good for -/
def Fr.Gd (Q : VK) (v : PV) (M' : Mem) : Prop := ∀ V H' μ', F.Ext H μ M H' μ' M' → F.RM H' μ' M' → RV F.K H' μ' v V → Q V H'
def Fr.Gl (Q : List V → Hp → Prop) (v : List PV) (M' : Mem) : Prop := ∀ V H' μ', F.Ext H μ M H' μ' M' → F.RM H' μ' M' → RVs F.K H' μ' v V → Q V H'
def Fr.Ge (σ : L2.St) (k : Nat) (vs : List PV) (M' : Mem) : Prop := ∀ cls d H' μ', F.Ext H μ M H' μ' M' → F.RM H' μ' M' → F.RX H' μ' k vs cls d → F.W cls d σ H'
end
section
variable {F : Fr} {H H' : Hp} {μ μ' : List Addr} {M M' : Mem}
theorem Fr.Gd.step {Q : VK} {v : PV} {N : Mem} (h : F.Gd H μ M Q v N) (x : F.Ext H μ M H' μ' M') : F.Gd H' μ' M' Q v N := fun V H2 μ2 y => h V H2 μ2 (x.trans y)
theorem Fr.Gl.step {Q : List V → Hp → Prop} {v : List PV} {N : Mem} (h : F.Gl H μ M Q v N) (x : F.Ext H μ M H' μ' M') : F.Gl H' μ' M' Q v N := fun V H2 μ2 y => h V H2 μ2 (x.trans y)
theorem Fr.Ge.step {σ : L2.St} {k : Nat} {vs : List PV} {N : Mem} (h : F.Ge H μ M σ k vs N) (x : F.Ext H μ M H' μ' M') : F.Ge H' μ' M' σ k vs N := fun a d H2 μ2 y => h a d H2 μ2 (x.trans y)
theorem Ok.step {σ : L2.St} {Q : VK} {r : Res PV} (h : Ok r (F.Gd H μ M Q) (F.Ge H μ M σ)) (x : F.Ext H μ M H' μ' M') : Ok r (F.Gd H' μ' M' Q) (F.Ge H' μ' M' σ) := h.mono (fun _ _ q => q.step x) fun _ _ _ q => q.step x
theorem Ok.stepL {σ : L2.St} {Q : List V → Hp → Prop} {r : Res (List PV)} (h : Ok r (F.Gl H μ M Q) (F.Ge H μ M σ)) (x : F.Ext H μ M H' μ' M') : Ok r (F.Gl H' μ' M' Q) (F.Ge H' μ' M' σ) := h.mono (fun _ _ q => q.step x) fun _ _ _ q => q.step x
end
/-- the state at hand -/
structure Fr.At (F : Fr) (σ : L2.St) (H : Hp) (μ : List Addr) (M : Mem) (ρ : Rho) : Prop where
  m : F.RM H μ M
  s : RS F.K H μ ρ σ
theorem Fr.At.go {F : Fr} {σ : L2.St} {H H' : Hp} {μ μ' : List Addr} {M M' : Mem} {ρ : Rho} (a : F.At σ H μ M ρ) (x : F.Ext H μ M H' μ' M') (m : F.RM H' μ' M') : F.At σ H' μ' M' ρ := ⟨m, a.s.ext x⟩
def tE (F : Fr) (e : Se) : TE := fun σ H Q => ∃ μ M ρ, F.At σ H μ M ρ ∧ Ok (e F.c ρ M) (F.Gd H μ M Q) (F.Ge H μ M σ)
def tL (F : Fr) (l : Sl) : TA := fun σ H Q => ∃ μ M ρ, F.At σ H μ M ρ ∧ Ok (l F.c ρ M) (F.Gl H μ M Q) (F.Ge H μ M σ)
theorem _root_.L2.PE.imp {X : Cx} {e : Expr} {t t' : TE} (h : PE X e t) (i : ∀ σ H Q, t' σ H Q → t σ H Q) : PE X e t' := ⟨fun pins s σ H Q I q => h.run pins s σ H Q I (i σ H Q q)⟩
theorem _root_.L2.PA.imp {X : Cx} {e : List Expr} {t t' : TA} (h : PA X e t) (i : ∀ σ H Q, t' σ H Q → t σ H Q) : PA X e t' := ⟨fun pos pins s σ H Q I q => h.run pos pins s σ H Q I (i σ H Q q)⟩
theorem _root_.L2.PT.imp {X : Cx} {e : Expr} {t t' : TT} (h : PT X e t) (i : ∀ σ H Q, t' σ H Q → t σ H Q) : PT X e t' := ⟨fun pins s σ H Q I q => h.run pins s σ H Q I (i σ H Q q)⟩
theorem _root_.L2.PS.imp {X : Cx} {e : Stmt} {t t' : TS} (h : PS X e t) (i : ∀ D σ H, t' D σ H → t D σ H) : PS X e t' := ⟨fun pins s σ H D I q => h.run pins s σ H D I (i D σ H q)⟩
theorem _root_.L2.PSs.imp {X : Cx} {e : List Stmt} {t t' : TS} (h : PSs X e t) (i : ∀ D σ H, t' D σ H → t D σ H) : PSs X e t' := ⟨fun pins s σ H D I q => h.run pins s σ H D I (i D σ H q)⟩

/-! ### values -/
section
variable {X : Cx} {F : Fr} {pos : Pos}
theorem e_var {i : Nat} {x : Str} (hN : X.N[i]? = some x) (hv : Vis X.env.scope x) (hd : (x == ("__debug__" : Str)) = false) (hcd : (x == ("__classdict__" : Str)) = false) : PE X (.Name x pos) (tE F (sVar i)) := by
  refine (pe_var hN hv hd hcd).imp fun σ H Q h => ?_
  obtain ⟨μ, M, ρ, a, h⟩ := h
  have h' : Ok (opt (nth ρ i) .no fun o => opt o .no fun v => .ok v M) (F.Gd H μ M Q) (F.Ge H μ M σ) := h
  rw [nth_eq] at h'
  cases e : ρ[i]? with
  | none => rw [e] at h'; exact h'.elim
  | some o => cases o with
    | none => rw [e] at h'; exact h'.elim
    | some v =>
      rw [e] at h'
      obtain ⟨w, h1, h2⟩ := a.s.get i v e
      exact ⟨w, h1, h' w H μ .refl a.m h2⟩
/-- a constant -/
theorem e_val {e : Expr} {v : PV} {w : V} (h : PE X e (tC w)) (r : ∀ H μ, RV F.K H μ v w) : PE X e (tE F (sVal v)) := by
  refine h.imp fun σ H Q q => ?_
  obtain ⟨μ, M, ρ, a, q⟩ := q
  exact q w H μ .refl a.m (r H μ)
theorem e_int {i j} : PE X (.Constant (.int i) j pos) (tE F (sVal (.int i))) := e_val pe_int fun _ _ => .int i
theorem e_bl {i j} : PE X (.Constant (.bool i) j pos) (tE F (sVal (.bl i))) := e_val pe_bl fun _ _ => .bl i
theorem e_non {j} : PE X (.Constant .none j pos) (tE F (sVal .non)) := e_val pe_non fun _ _ => .non
theorem e_str {s : List Nat} {x : Str} {j} (h : TxOk s) (e : x = txt s) : PE X (.Constant (.str x) j pos) (tE F (sVal (.str s))) := by
  subst e
  exact e_val pe_str fun _ _ => .str s h

/-! ### argument lists -/
theorem l_nil : PA X [] (tL F lNil) := by
  refine pa_nil.imp fun σ H Q q => ?_
  obtain ⟨μ, M, ρ, a, q⟩ := q
  exact q [] H μ .refl a.m .nil
theorem l_cons {e : Expr} {es : List Expr} {x : Se} {l : Sl} (h : PE X e (tE F x)) (hr : PA X es (tL F l)) (hs : starEach (e :: es) X.env = (false, eval e X.env) :: starEach es X.env) : PA X (e :: es) (tL F (lCons x l)) := by
  refine (pa_cons h hr hs).imp fun σ H Q q => ?_
  obtain ⟨μ, M, ρ, a, q⟩ := q
  refine ⟨μ, M, ρ, a, (Ok.bind.mp q).mono (fun v M1 q V H1 μ1 x1 m1 r1 => ?_) fun _ _ _ q => q⟩
  refine ⟨μ1, M1, ρ, a.go x1 m1, (Ok.bind.mp q).mono (fun vs M2 q V2 H2 μ2 x2 m2 r2 => ?_) fun _ _ _ q => q.step x1⟩
  exact q (V :: V2) H2 μ2 (x1.trans x2) m2 (.cons (r1.ext x2) r2)

/-! ### operations on values -/
def R1 (F : Fr) (f : Mem → PV → Res PV) : V → Hp → VK → Prop := fun x H Q => ∃ μ M v, F.RM H μ M ∧ RV F.K H μ v x ∧ Ok (f M v) (F.Gd H μ M Q) fun _ _ _ => False
def R2 (F : Fr) (f : Mem → PV → PV → Res PV) : L2.R2 := fun x y H Q => ∃ μ M v w, F.RM H μ M ∧ RV F.K H μ v x ∧ RV F.K H μ w y ∧ Ok (f M v w) (F.Gd H μ M Q) fun _ _ _ => False
def RL (F : Fr) (f : Mem → List PV → Res PV) : List V → Hp → VK → Prop := fun xs H Q => ∃ μ M vs, F.RM H μ M ∧ RVs F.K H μ vs xs ∧ Ok (f M vs) (F.Gd H μ M Q) fun _ _ _ => False
theorem Ok.nx {α : Type} {r : Res α} {G : α → Mem → Prop} {E E' : Nat → List PV → Mem → Prop} (n : NX r) (h : Ok r G E) : Ok r G E' := by
  obtain ⟨a, M, e, q⟩ := h.val n
  rw [e]; exact q
theorem to1 {f : Mem → PV → Res PV} {x : Se} (n : ∀ M v, NX (f M v)) {σ : L2.St} {H : Hp} {Q : VK} (h : tE F (s1 f x) σ H Q) : tE F x σ H fun v H1 => R1 F f v H1 Q := by
  obtain ⟨μ, M, ρ, a, q⟩ := h
  refine ⟨μ, M, ρ, a, (Ok.bind.mp q).mono (fun v M1 q V H1 μ1 x1 m1 r1 => ?_) fun _ _ _ q => q⟩
  exact ⟨μ1, M1, v, m1, r1, (q.nx (n M1 v)).mono (fun _ _ q => q.step x1) fun _ _ _ q => q⟩
theorem to2 {f : Mem → PV → PV → Res PV} {x y : Se} (n : ∀ M v w, NX (f M v w)) {σ : L2.St} {H : Hp} {Q : VK} (h : tE F (s2 f x y) σ H Q) : tE F x σ H fun v H1 => tE F y σ H1 fun w H2 => R2 F f v w H2 Q := by
  obtain ⟨μ, M, ρ, a, q⟩ := h
  refine ⟨μ, M, ρ, a, (Ok.bind.mp q).mono (fun v M1 q V H1 μ1 x1 m1 r1 => ?_) fun _ _ _ q => q⟩
  refine ⟨μ1, M1, ρ, a.go x1 m1, (Ok.bind.mp q).mono (fun w M2 q W H2 μ2 x2 m2 r2 => ?_) fun _ _ _ q => q.step x1⟩
  exact ⟨μ2, M2, v, w, m2, r1.ext x2, r2, (q.nx (n M2 v w)).mono (fun _ _ q => q.step (x1.trans x2)) fun _ _ _ q => q⟩
theorem e_bin {op : Operator} {f : Mem → PV → PV → Res PV} {a b : Expr} {x y : Se} (n : ∀ M v w, NX (f M v w)) (ho : OpR X (binaryOp op) (R2 F f)) (ha : PE X a (tE F x)) (hb : PE X b (tE F y)) : PE X (.BinOp a op b pos) (tE F (s2 f x y)) :=
  (pe_op ho ha hb).imp fun _ _ _ h => to2 n h
theorem e_cmp {op : CmpOp} {f : Mem → PV → PV → Res PV} {a b : Expr} {x y : Se} (n : ∀ M v w, NX (f M v w)) (ho : OpR X (compareOp op) (R2 F f)) (ha : PE X a (tE F x)) (hb : PE X b (tE F y)) (hm : behindInMarks op b = false) : PE X (.Compare a [op] [b] pos) (tE F (s2 f x y)) :=
  (pe_cmpR ho ha hb hm).imp fun _ _ _ h => to2 n h
theorem e_un {op : UnaryOp} {f : Mem → PV → Res PV} {a : Expr} {x : Se} (n : ∀ M v, NX (f M v)) (ho : UnR X (unaryOp op) (R1 F f)) (ha : PE X a (tE F x)) : PE X (.UnaryOp op a pos) (tE F (s1 f x)) :=
  (pe_un ho ha).imp fun _ _ _ h => to1 n h
theorem e_idx {f : Mem → PV → PV → Res PV} {a b : Expr} {x y : Se} (n : ∀ M v w, NX (f M v w)) (hr : IxR X (R2 F f)) (ha : PE X a (tE F x)) (hb : PE X b (tE F y)) (hs : PlainIx b) : PE X (.Subscript a b pos) (tE F (s2 f x y)) :=
  (pe_ix hr ha hb hs).imp fun _ _ _ h => to2 n h
end
end Ev

set_option Elab.async false
set_option linter.all false
set_option maxRecDepth 100000
set_option maxHeartbeats 1000000
/-! Sc: truth, tests, displays. -/
namespace Ev
open PySem PySem.Spec PyProof.Rows L2
theorem RVs.emp {K : PySem.W.Frag} {H : Hp} {μ : List Addr} {xs : List PV} {vs : List V} (h : RVs K H μ xs vs) : full xs = !vs.isEmpty := by cases h <;> rfl
theorem RD.emp {K : PySem.W.Frag} {H : Hp} {μ : List Addr} {xs : List (PV × PV)} {vs : List (Key × V)} (h : RD K H μ xs vs) : full xs = !vs.isEmpty := by cases h <;> rfl
theorem tru_V {K : PySem.W.Frag} {b : Nat} {H : Hp} {μ : List Addr} {M : Mem} {v : PV} {V : L2.V} {k : Bool} (m : RM K b H μ M) (r : RV K H μ v V) (h : tru M v = some k) : TruV K V H k := by
  cases r with
  | non => cases h; exact rfl
  | bl q => cases h; exact rfl
  | int i =>
    cases h
    show _ = (i != 0)
    cases i with
    | ofNat n => cases n <;> rfl
    | negSucc n => rfl
  | str s q =>
    cases h
    refine ⟨q.2, ?_⟩
    cases s with
    | nil => rfl
    | cons c s =>
      show true = (((c :: s).length : Int) != 0)
      rw [eq_comm, bne_iff_ne, ne_eq, List.length_cons]; omega
  | tup s q => cases h; exact .inr (.inl ⟨_, s.sq, q.emp⟩)
  | @ref i a e =>
    obtain ⟨o, ho, ro⟩ := m.at e
    have h' : opt (nth M i) none (fun o => o.tru) = some k := h
    rw [nth_eq, ho] at h'
    cases ro with
    | lst h1 h2 => cases h'; exact .inl ⟨_, .of h1, h2.emp⟩
    | ro h1 h2 => cases h'; exact .inl ⟨_, h1.sq, h2.emp⟩
    | dk h1 h2 => cases h'; exact .inr (.inr ⟨_, h1, h2.emp⟩)
    | dt h1 h2 => cases h'
    | box h1 h2 => cases h'
/-- what a test's value is good for -/
def Fr.Gt (F : Fr) (H : Hp) (μ : List Addr) (M : Mem) (Q : Bool → Hp → Prop) (v : PV) (M' : Mem) : Prop := ∀ H' μ', F.Ext H μ M H' μ' M' → F.RM H' μ' M' → ∃ k, tru M' v = some k ∧ Q k H'
def tX (F : Fr) (e : Se) : TT := fun σ H Q => ∃ μ M ρ, F.At σ H μ M ρ ∧ Ok (e F.c ρ M) (F.Gt H μ M Q) (F.Ge H μ M σ)
section
variable {X : Cx} {F : Fr} {pos : Pos} {H H' : Hp} {μ μ' : List Addr} {M M' : Mem}
theorem Fr.Gt.step {Q : Bool → Hp → Prop} {v : PV} {N : Mem} (h : F.Gt H μ M Q v N) (x : F.Ext H μ M H' μ' M') : F.Gt H' μ' M' Q v N := fun H2 μ2 y => h H2 μ2 (x.trans y)
theorem Ok.stepT {σ : L2.St} {Q : Bool → Hp → Prop} {r : Res PV} (h : Ok r (F.Gt H μ M Q) (F.Ge H μ M σ)) (x : F.Ext H μ M H' μ' M') : Ok r (F.Gt H' μ' M' Q) (F.Ge H' μ' M' σ) := h.mono (fun _ _ q => q.step x) fun _ _ _ q => q.step x
/-- an expression's test is its value's truth -/
theorem x_of {e : Expr} {x : Se} (hK : F.K = X.K) (h : PE X e (tE F x)) (he : ∀ whole, isTrue e X.env whole = (do let v ← whole; standAt e.pos; holding [v] (truthy v))) : PT X e (tX F x) := by
  refine (pt_truth h he).imp fun σ H Q q => ?_
  obtain ⟨μ, M, ρ, a, q⟩ := q
  refine ⟨μ, M, ρ, a, q.mono (fun v M1 q V H1 μ1 x1 m1 r1 => ?_) fun _ _ _ q => q⟩
  obtain ⟨k, h1, h2⟩ := q H1 μ1 x1 m1
  exact ⟨k, hK ▸ tru_V m1 r1 h1, h2⟩
/-- a comparison as a test -/
theorem x_cmp {op : CmpOp} {f : Mem → PV → PV → Res PV} {a b : Expr} {x y : Se} (n : ∀ M v w, NX (f M v w)) (nb : ∀ M v w r M', f M v w = .ok r M' → ∃ k, r = .bl k) (ho : OpR X (compareOp op) (R2 F f)) (ha : PE X a (tE F x)) (hb : PE X b (tE F y)) (hm : behindInMarks op b = false) : PT X (.Compare a [op] [b] pos) (tX F (s2 f x y)) := by
  refine (pt_cmpR ho ha hb hm).imp fun σ H Q q => to2 n ?_
  obtain ⟨μ, M, ρ, A, q⟩ := q
  refine ⟨μ, M, ρ, A, Ok.bind.mpr ((Ok.bind.mp q).mono (fun v M1 q => Ok.bind.mpr ((Ok.bind.mp q).mono (fun w M2 q => ?_) fun _ _ _ q => q)) fun _ _ _ q => q)⟩
  obtain ⟨r, M3, e, q⟩ := q.val (n M2 v w)
  rw [e]
  obtain ⟨k, rfl⟩ := nb _ _ _ _ _ e
  intro V H3 μ3 x3 m3 r3
  obtain ⟨k', h1, h2⟩ := q H3 μ3 x3 m3
  cases h1
  cases r3
  exact ⟨k, rfl, h2⟩
theorem byT_ok {α : Type} {M : Mem} {v : PV} {x y : Res α} {G : α → Mem → Prop} {E : Nat → List PV → Mem → Prop} (h : Ok (byT M v .no x y) G E) : ∃ k, tru M v = some k ∧ (if k = true then Ok x G E else Ok y G E) := by
  unfold byT at h
  cases e : tru M v with
  | none => rw [e] at h; exact h.elim
  | some k => rw [e] at h; refine ⟨k, rfl, ?_⟩; cases k <;> exact h
theorem e_and {e r : Expr} {rest : List Expr} {x y : Se} (hK : F.K = X.K) (ha : PE X e (tE F x)) (hb : PE X (.BoolOp .And (r :: rest) pos) (tE F y)) : PE X (.BoolOp .And (e :: r :: rest) pos) (tE F (sAnd x y)) := by
  refine (pe_andT ha hb).imp fun σ H Q q => ?_
  obtain ⟨μ, M, ρ, a, q⟩ := q
  refine ⟨μ, M, ρ, a, (Ok.bind.mp q).mono (fun v M1 q V H1 μ1 x1 m1 r1 => ?_) fun _ _ _ q => q⟩
  obtain ⟨k, e, q⟩ := byT_ok q
  refine ⟨k, hK ▸ tru_V m1 r1 e, ?_⟩
  cases k with
  | true => exact ⟨μ1, M1, ρ, a.go x1 m1, Ok.step q x1⟩
  | false => exact q V H1 μ1 x1 m1 r1
theorem e_or {e r : Expr} {rest : List Expr} {x y : Se} (hK : F.K = X.K) (ha : PE X e (tE F x)) (hb : PE X (.BoolOp .Or (r :: rest) pos) (tE F y)) : PE X (.BoolOp .Or (e :: r :: rest) pos) (tE F (sOr x y)) := by
  refine (pe_orT ha hb).imp fun σ H Q q => ?_
  obtain ⟨μ, M, ρ, a, q⟩ := q
  refine ⟨μ, M, ρ, a, (Ok.bind.mp q).mono (fun v M1 q V H1 μ1 x1 m1 r1 => ?_) fun _ _ _ q => q⟩
  obtain ⟨k, e, q⟩ := byT_ok q
  refine ⟨k, hK ▸ tru_V m1 r1 e, ?_⟩
  cases k with
  | false => exact ⟨μ1, M1, ρ, a.go x1 m1, Ok.step q x1⟩
  | true => exact q V H1 μ1 x1 m1 r1
theorem e_one {op} {e : Expr} {x : Se} (h : PE X e (tE F x)) : PE X (.BoolOp op [e] pos) (tE F x) := pe_one h
theorem w_and1 {e : Expr} {x : Se} (h : PT X e (tX F x)) : PW X (.BoolOp .And [e] pos) (tX F x) := pw_and1 h
theorem w_or1 {e : Expr} {x : Se} (h : PT X e (tX F x)) : PW X (.BoolOp .Or [e] pos) (tX F x) := pw_or1 h
theorem _root_.L2.PW.imp {X : Cx} {e : Expr} {t t' : TT} (h : PW X e t) (i : ∀ σ H Q, t' σ H Q → t σ H Q) : PW X e t' := ⟨fun w pins s σ H Q I q => h.run w pins s σ H Q I (i σ H Q q)⟩
theorem w_and {e r : Expr} {rest : List Expr} {x y : Se} (ha : PT X e (tX F x)) (hb : PW X (.BoolOp .And (r :: rest) pos) (tX F y)) : PW X (.BoolOp .And (e :: r :: rest) pos) (tX F (sAnd x y)) := by
  refine (pw_and ha hb).imp fun σ H Q q => ?_
  obtain ⟨μ, M, ρ, a, q⟩ := q
  refine ⟨μ, M, ρ, a, (Ok.bind.mp q).mono (fun v M1 q H1 μ1 x1 m1 => ?_) fun _ _ _ q => q⟩
  obtain ⟨k, e, q⟩ := byT_ok q
  refine ⟨k, e, ?_⟩
  cases k with
  | true => exact ⟨μ1, M1, ρ, a.go x1 m1, Ok.stepT q x1⟩
  | false =>
    obtain ⟨k', e', q⟩ := q H1 μ1 x1 m1
    rw [e] at e'; cases e'
    exact q
theorem w_or {e r : Expr} {rest : List Expr} {x y : Se} (ha : PT X e (tX F x)) (hb : PW X (.BoolOp .Or (r :: rest) pos) (tX F y)) : PW X (.BoolOp .Or (e :: r :: rest) pos) (tX F (sOr x y)) := by
  refine (pw_or ha hb).imp fun σ H Q q => ?_
  obtain ⟨μ, M, ρ, a, q⟩ := q
  refine ⟨μ, M, ρ, a, (Ok.bind.mp q).mono (fun v M1 q H1 μ1 x1 m1 => ?_) fun _ _ _ q => q⟩
  obtain ⟨k, e, q⟩ := byT_ok q
  refine ⟨k, e, ?_⟩
  cases k with
  | false => exact ⟨μ1, M1, ρ, a.go x1 m1, Ok.stepT q x1⟩
  | true =>
    obtain ⟨k', e', q⟩ := q H1 μ1 x1 m1
    rw [e] at e'; cases e'
    exact q
theorem no?_eq (k : Bool) : no? k = !k := by cases k <;> rfl
theorem not_ok {M : Mem} {v : PV} {G : PV → Mem → Prop} {E : Nat → List PV → Mem → Prop} (h : Ok (notV M v) G E) : ∃ k, tru M v = some k ∧ G (.bl (!k)) M := by
  unfold notV at h
  cases e : tru M v with
  | none => rw [e] at h; exact h.elim
  | some k => rw [e] at h; refine ⟨k, rfl, ?_⟩; rw [← no?_eq]; exact h
theorem e_not {e : Expr} {x : Se} (hK : F.K = X.K) (h : PE X e (tE F x)) : PE X (.UnaryOp .Not e pos) (tE F (s1 notV x)) := by
  refine (pe_notT h).imp fun σ H Q q => ?_
  obtain ⟨μ, M, ρ, a, q⟩ := q
  refine ⟨μ, M, ρ, a, (Ok.bind.mp q).mono (fun v M1 q V H1 μ1 x1 m1 r1 => ?_) fun _ _ _ q => q⟩
  obtain ⟨k, e, q⟩ := not_ok q
  exact ⟨k, hK ▸ tru_V m1 r1 e, q _ H1 μ1 x1 m1 (.bl _)⟩
theorem x_not {e : Expr} {x : Se} (h : PT X e (tX F x)) : PT X (.UnaryOp .Not e pos) (tX F (s1 notV x)) := by
  refine (pt_not h).imp fun σ H Q q => ?_
  obtain ⟨μ, M, ρ, a, q⟩ := q
  refine ⟨μ, M, ρ, a, (Ok.bind.mp q).mono (fun v M1 q H1 μ1 x1 m1 => ?_) fun _ _ _ q => q⟩
  obtain ⟨k, e, q⟩ := not_ok q
  refine ⟨k, e, ?_⟩
  obtain ⟨k', e', q⟩ := q H1 μ1 x1 m1
  cases e'
  exact q
theorem e_ite {c a b : Expr} {t x y : Se} (hc : PT X c (tX F t)) (ha : PE X a (tE F x)) (hb : PE X b (tE F y)) : PE X (.IfExp c a b pos) (tE F (sIte t x y)) := by
  refine (pe_ifExp hc ha hb).imp fun σ H Q q => ?_
  obtain ⟨μ, M, ρ, A, q⟩ := q
  refine ⟨μ, M, ρ, A, (Ok.bind.mp q).mono (fun v M1 q H1 μ1 x1 m1 => ?_) fun _ _ _ q => q⟩
  obtain ⟨k, e, q⟩ := byT_ok q
  refine ⟨k, e, ?_⟩
  cases k with
  | true => exact ⟨μ1, M1, ρ, A.go x1 m1, Ok.step q x1⟩
  | false => exact ⟨μ1, M1, ρ, A.go x1 m1, Ok.step q x1⟩
/-- the reading of a chain of two comparisons -/
theorem toChain {f g : Mem → PV → PV → Res PV} {x y z : Se} (n : ∀ M v w, NX (f M v w)) (n' : ∀ M v w, NX (g M v w)) {σ : L2.St} {Q : VK} (h : tE F (sChain f g x y z) σ H Q) : tChain (R2 F f) (R2 F g) (tE F x) (tE F y) (tE F z) σ H Q := by
  obtain ⟨μ, M, ρ, A, q⟩ := h
  refine ⟨μ, M, ρ, A, (Ok.bind.mp q).mono (fun v M1 q V H1 μ1 x1 m1 r1 => ?_) fun _ _ _ q => q⟩
  refine ⟨μ1, M1, ρ, A.go x1 m1, (Ok.bind.mp q).mono (fun w M2 q W H2 μ2 x2 m2 r2 => ?_) fun _ _ _ q => q.step x1⟩
  obtain ⟨r, M3, e, q⟩ := (Ok.bind.mp q).val (n M2 v w)
  refine ⟨μ2, M2, v, w, m2, r1.ext x2, r2, ?_⟩
  rw [e]
  intro V3 H3 μ3 x3 m3 r3
  cases r with
  | bl k =>
    cases r3
    refine ⟨k, rfl, ?_⟩
    cases k with
    | true =>
      refine ⟨μ3, M3, ρ, (A.go (x1.trans x2) m2).go x3 m3, (Ok.bind.mp q).mono (fun u M4 q U H4 μ4 x4 m4 r4 => ?_) fun _ _ _ q => q.step ((x1.trans x2).trans x3)⟩
      exact ⟨μ4, M4, w, u, m4, (r2.ext x3).ext x4, r4, (q.nx (n' M4 w u)).mono (fun _ _ q => q.step (((x1.trans x2).trans x3).trans x4)) fun _ _ _ q => q⟩
    | false => exact q (.bl false) H3 μ3 ((x1.trans x2).trans x3) m3 (.bl false)
  | _ => exact q.elim
theorem e_chain {op op' : CmpOp} {f g : Mem → PV → PV → Res PV} {a b c : Expr} {x y z : Se} (n : ∀ M v w, NX (f M v w)) (n' : ∀ M v w, NX (g M v w)) (ho : OpR X (compareOp op) (R2 F f)) (ho' : OpR X (compareOp op') (R2 F g))
    (ha : PE X a (tE F x)) (hb : PE X b (tE F y)) (hc : PE X c (tE F z)) (hm : lastMarks [op, op'] [b, c] = false) : PE X (.Compare a [op, op'] [b, c] pos) (tE F (sChain f g x y z)) :=
  (pe_chain ho ho' ha hb hc hm).imp fun _ _ _ h => toChain n n' h
theorem x_chain {op op' : CmpOp} {f g : Mem → PV → PV → Res PV} {a b c : Expr} {x y z : Se} (n : ∀ M v w, NX (f M v w)) (n' : ∀ M v w, NX (g M v w)) (nb : ∀ M v w r M', g M v w = .ok r M' → ∃ k, r = .bl k) (ho : OpR X (compareOp op) (R2 F f)) (ho' : OpR X (compareOp op') (R2 F g))
    (ha : PE X a (tE F x)) (hb : PE X b (tE F y)) (hc : PE X c (tE F z)) (hm : lastMarks [op, op'] [b, c] = false) : PT X (.Compare a [op, op'] [b, c] pos) (tX F (sChain f g x y z)) := by
  refine (pt_chain ho ho' ha hb hc hm).imp fun σ H Q q => toChain n n' ?_
  obtain ⟨μ, M, ρ, A, q⟩ := q
  have key : ∀ {v M'}, (∃ k, v = PV.bl k) → F.Gt H μ M Q v M' → F.Gd H μ M (fun x H' => ∃ k, x = .bl k ∧ Q k H') v M' := by
    rintro v M' ⟨k, rfl⟩ h V H3 μ3 x3 m3 r3
    obtain ⟨k', h1, h2⟩ := h H3 μ3 x3 m3
    cases h1; cases r3
    exact ⟨k, rfl, h2⟩
  refine ⟨μ, M, ρ, A, Ok.bind.mpr ((Ok.bind.mp q).mono (fun v M1 q => Ok.bind.mpr ((Ok.bind.mp q).mono (fun w M2 q => Ok.bind.mpr ((Ok.bind.mp q).mono (fun r M3 q => ?_) fun _ _ _ q => q)) fun _ _ _ q => q)) fun _ _ _ q => q)⟩
  cases r with
  | bl k => cases k with
    | true => refine Ok.bind.mpr ((Ok.bind.mp q).mono (fun u M4 q => ?_) fun _ _ _ q => q)
              obtain ⟨r, M5, e, q⟩ := q.val (n' M4 w u)
              rw [e]
              exact key (nb _ _ _ _ _ e) q
    | false => exact key ⟨false, rfl⟩ q
  | _ => exact q
/-! ### displays -/
/-- no list of l is longer than n -/
def LenLe (l : Sl) (n : Nat) : Prop := ∀ (c : Fx) (ρ : Rho) (M : Mem) (G : List PV → Mem → Prop) (E : Nat → List PV → Mem → Prop), Ok (l c ρ M) G E → Ok (l c ρ M) (fun vs M' => vs.length ≤ n ∧ G vs M') E
theorem e_tup {es : List Expr} {k : Nat} {l : Sl} (h : PA X es (tL F l)) (hn : LenLe l sizeLine) : PE X (.Tuple es k pos) (tE F (sTup false l)) := by
  refine (pe_tup h).imp fun σ H Q q => ?_
  obtain ⟨μ, M, ρ, A, q⟩ := q
  refine ⟨μ, M, ρ, A, (hn _ _ _ _ _ (Ok.bind.mp q)).mono (fun vs M1 ⟨hz, q⟩ V H1 μ1 x1 m1 r1 => ?_) fun _ _ _ q => q⟩
  · refine ⟨by rw [← r1.length]; exact hz, fun p hp => ?_⟩
    have k := keepNew (o := .tup V) hp
    have x2 : F.Ext H1 μ1 M1 (upd H1 p (.tup V)) μ1 M1 := Ext.same k
    exact q _ _ μ1 (x1.trans x2) (m1.same k) (.tup upd_same (r1.ext x2))
/-- a tuple's display, the new record known -/
theorem pe_tupZ {es : List Expr} {k : Nat} {t : TA} (h : PA X es t) : PE X (.Tuple es k pos) (fun σ H Q => t σ H fun vs H1 => vs.length ≤ sizeLine ∧ ∀ (p : Addr) (o : PySem.Obj), H1 p = none → o.dict = none → Q (.ref p) (upd H1 p (.frz o (.tup vs)))) := by
  refine ⟨fun pins s σ H Q I q => ?_⟩
  refine Tuple_ (thn (h.run _ pins s σ H _ I q) fun us s1 ⟨vs, H1, I1, r1, hz, q1⟩ => ?_)
  refine wpAny_newObj_type ?_ (by show us.toArray.size ≤ sizeLine; rw [List.size_toArray, ← r1.length]; exact hz)
  have hg : (s1.heap.push { cls := .type "tuple", data := .seq us.toArray }).get? s1.heap.objs.size = some { cls := .type "tuple", data := .seq us.toArray } := Heap.get?_push_size _ rfl
  exact ⟨.ref s1.heap.objs.size, _, I1.laid (t' := s1.toks) (o := .frz { cls := .type "tuple", data := .seq us.toArray } (.tup vs)) (fun _ _ e => Heap.get?_push_of_some _ e) (Nat.le_refl _) ⟨hg, hz, us, r1, ⟨_, hg, rfl, _, rfl⟩⟩, rfl, q1 _ _ (I1.hok.fresh (Nat.le_refl _)) rfl⟩
theorem e_tupF {es : List Expr} {k : Nat} {l : Sl} (h : PA X es (tL F l)) (hn : LenLe l sizeLine) : PE X (.Tuple es k pos) (tE F (sTup true l)) := by
  refine (pe_tupZ h).imp fun σ H Q q => ?_
  obtain ⟨μ, M, ρ, A, q⟩ := q
  refine ⟨μ, M, ρ, A, (hn _ _ _ _ _ (Ok.bind.mp q)).mono (fun vs M1 ⟨hz, q⟩ V H1 μ1 x1 m1 r1 => ?_) fun _ _ _ q => q⟩
  · refine ⟨by rw [← r1.length]; exact hz, fun p o hp hd => ?_⟩
    have k := keepNew (o := .frz o (.tup V)) hp
    have x2 : F.Ext H1 μ1 M1 (upd H1 p (.frz o (.tup V))) μ1 M1 := Ext.same k
    exact q _ _ μ1 (x1.trans x2) (m1.same k) (.tup ⟨o, hd, upd_same⟩ (r1.ext x2))
theorem new_gd {E : Nat → List PV → Mem → Prop} {p : Addr} {o : HO} {ob : Obj} {Q : VK} {H1 : Hp} {μ1 : List Addr} {M1 : Mem} (x1 : F.Ext H μ M H1 μ1 M1) (m1 : F.RM H1 μ1 M1) (hp : H1 p = none) (r : ∀ H' μ', F.Ext H1 μ1 M1 H' μ' (M1 ++ [ob]) → H' p = some o → RO F.K H' μ' p ob)
    (q : Ok (new M1 ob) (F.Gd H μ M Q) E) : Q (.ref p) (upd H1 p o) := by
  have q : F.Gd H μ M Q (.ref (len M1)) (app M1 [ob]) := q
  rw [len_eq, app_eq] at q
  have x2 : F.Ext H1 μ1 M1 (upd H1 p o) (μ1 ++ [p]) (M1 ++ [ob]) := Ext.push m1 hp
  have m2 := m1.push (o := o) (ob := ob) hp (r _ _ x2 upd_same)
  refine q _ _ _ (x1.trans x2) m2 (.ref ?_)
  rw [← m1.len, List.getElem?_append_right (Nat.le_refl _), Nat.sub_self]
  rfl
theorem nx_new {M : Mem} {o : Obj} : NX (new M o) := trivial
theorem e_lst {es : List Expr} {l : Sl} (h : PA X es (tL F l)) (hn : LenLe l sizeLine) : PE X (.List es pos) (tE F (sLst l)) := by
  refine (pe_lst h).imp fun σ H Q q => ?_
  obtain ⟨μ, M, ρ, A, q⟩ := q
  refine ⟨μ, M, ρ, A, (hn _ _ _ _ _ (Ok.bind.mp q)).mono (fun vs M1 ⟨hz, q⟩ V H1 μ1 x1 m1 r1 => ?_) fun _ _ _ q => q⟩
  · refine ⟨by rw [← r1.length]; exact hz, fun p hp => ?_⟩
    exact new_gd (E := F.Ge H μ M σ) x1 m1 hp (fun H' μ' x2 e2 => .lst e2 (r1.ext x2)) q
theorem len_nil : LenLe lNil 0 := fun c ρ M G E q => ⟨Nat.le_refl _, q⟩
theorem len_cons {x : Se} {l : Sl} {n : Nat} (h : LenLe l n) : LenLe (lCons x l) (n + 1) := fun c ρ M G E q =>
  Ok.bind.mpr ((Ok.bind.mp q).mono (fun v M1 q => Ok.bind.mpr ((h _ _ _ _ _ (Ok.bind.mp q)).mono (fun ws M2 q => ⟨Nat.succ_le_succ q.1, q.2⟩) fun _ _ _ q => q)) fun _ _ _ q => q)
theorem e_dnewK : PE X (.Dict [] [] pos) (tE F (sDnew false)) := by
  refine pe_dnewK.imp fun σ H Q q => ?_
  obtain ⟨μ, M, ρ, A, q⟩ := q
  exact fun p hp => new_gd (E := F.Ge H μ M σ) .refl A.m hp (fun H' μ' x2 e2 => .dk e2 .nil) q
theorem e_dnewT : PE X (.Dict [] [] pos) (tE F (sDnew true)) := by
  refine pe_dnewT.imp fun σ H Q q => ?_
  obtain ⟨μ, M, ρ, A, q⟩ := q
  exact fun p hp => new_gd (E := F.Ge H μ M σ) .refl A.m hp (fun H' μ' x2 e2 => .dt e2 .nil) q
end
end Ev

set_option Elab.async false
set_option linter.all false
set_option maxRecDepth 100000
set_option maxHeartbeats 1000000
/-! Se1: enumerate over a tuple; what loops walk, as readings. -/
namespace Ev
open PySem PySem.Spec PyProof.Rows L2

set_option maxHeartbeats 2000000 in
theorem meets_enumT (l : Addr) (items : Array Value) :
    Meets (Builtin.«enumerate.__new__» ⟨[.type "enumerate", .ref l], []⟩) (fun _ R s => s.heap.IsTuple l items ∧
      R (.ok (.ret (.ref (s.heap.push { cls := .type "tuple_iterator", data := .fields #[.ref l, .int 0 0] }).objs.size)))
        { s with heap := (s.heap.push { cls := .type "tuple_iterator", data := .fields #[.ref l, .int 0 0] }).push { cls := .type "enumerate", data := .fields #[.none, .bool false, .ref s.heap.objs.size, rawInt 0, .none, .none] } }) :=
  .of_wp fun prog w A R s h => by
    obtain ⟨hp, g, d, tk, os⟩ := s; obtain ⟨hl, h⟩ := h
    have hsub := sub_enumerate
    have q1 : ∀ {A' : Around} {E Q : Value → Shared → Prop}, Q (.ref hp.objs.size) ⟨hp.push { cls := .type "tuple_iterator", data := .fields #[.ref l, .int 0 0] }, g, d, tk, os⟩ → wpAny (model prog w) A' (pyIter (.ref l)) Q E ⟨hp, g, d, tk, os⟩ := fun q => wpAny_pyIter_tuple hl q
    wp_walk using q1
    refine wpAny_stack_any fun st => wpAny_pure ?_
    split
    · rename_i c _ _ _ _ _
      cases (c == Value.type "enumerate")
      · wp_walk using q1
        exact ⟨_, rfl, h⟩
      · wp_walk using q1
        exact ⟨_, rfl, h⟩
    · wp_walk using q1
      exact ⟨_, rfl, h⟩
theorem callEnumT {prog : Program} {w : World} {A : Around} {E : Value → Shared → Prop} {s : Shared} {l : Addr} {items : Array Value} {Q : Value → Shared → Prop} (hL : s.heap.IsTuple l items)
    (h : ∀ h', IsEnum h' (s.heap.objs.size + 1) s.heap.objs.size 0 .none → h'.IsTupleIter s.heap.objs.size l 0 →
      (∀ b o, s.heap.get? b = some o → h'.get? b = some o) → Q (.ref (s.heap.objs.size + 1)) { s with heap := h' }) :
    wpAny (model prog w) A (call (.type "enumerate") [.ref l]) Q E s := by
  refine callType_new F.called_enumerate (by decide) (F.typeCall_enumerate_1 _) (F.newCall_enumerate_1 _) (fun obj => F.args_object_init_2 obj _) F.entry_enumerate_new (meets_enumT l items) ⟨hL, ?_⟩
  have hz : (s.heap.push { cls := .type "tuple_iterator", data := .fields #[.ref l, .int 0 0] }).objs.size = s.heap.objs.size + 1 := Heap.size_push ..
  show _ ∧ _
  rw [hz]
  have he := Heap.get?_push_size (s.heap.push { cls := .type "tuple_iterator", data := .fields #[.ref l, .int 0 0] }) (o := { cls := .type "enumerate", data := .fields #[.none, .bool false, .ref s.heap.objs.size, rawInt 0, .none, .none] }) rfl
  rw [hz] at he
  exact ⟨⟨_, he, rfl⟩, h _ he ⟨_, Heap.get?_push_of_some _ (Heap.get?_push_size _ rfl), rfl, rfl⟩ fun b o x => Heap.get?_push_of_some _ (Heap.get?_push_of_some _ x)⟩
/-- the tuple at a, each item in a new pair -/
def IteT (K : PySem.W.Frag) (a : Addr) : L2.It :=
  ⟨fun i H => ∃ (xs : List V) (x : V), SqT K H a xs ∧ xs[i]? = some x, fun i H v H' => ∃ T x, v = .ref T ∧ H T = none ∧ H' = upd H T (.tup [.int (i : Nat), x]) ∧ ∀ xs, SqT K H a xs → xs[i]? = some x, fun i H => ∃ xs : List V, SqT K H a xs ∧ xs.length ≤ i⟩
theorem turn_enumT {P : Program} {w : World} {K : PySem.W.Frag} {elts : List Expr} {kk : Nat} {tpos : Pos} (a e it : Addr) :
    Turn P w K (.Tuple elts kk tpos) (IteT K a) [e, it] e (fun i h => (∃ old, IsEnum h e it ((i : Nat) : Int) old) ∧ h.IsTupleIter it a i ∧ e ≠ it) where
  mem := by simp
  obj := fun i h st b hb => by
    obtain ⟨⟨old, he⟩, ⟨o, ho, hc, hd⟩, _⟩ := st
    have e' : b = e ∨ b = it := by simpa using hb
    rcases e' with z | z
    · rw [z]; exact ⟨_, he, fun v q => nomatch q⟩
    · rw [z]; exact ⟨o, ho, fun v q => by rw [hd] at q; cases q⟩
  keep := fun i h h' st k => let ⟨⟨old, he⟩, hi, hne⟩ := st; ⟨⟨old, k e (by simp) _ he⟩, hi.at fun o q => k it (by simp) o q, hne⟩
  item := by
    intro X hP hw hK hc i pins s σ H E I hf st hg
    subst hP hw hK
    obtain ⟨⟨old, he⟩, hit, hne⟩ := st
    obtain ⟨xs, x, hq, hx⟩ := hg
    obtain ⟨its, rv, p, hz⟩ := I.tuple hq
    obtain ⟨u, hu, ru⟩ := rv.get hx
    have hel : e < s.heap.objs.size := Heap.lt_size he
    have hil : it < s.heap.objs.size := by obtain ⟨_, q, _⟩ := hit; exact Heap.lt_size q
    have p' : s.heap.IsTuple a its.toArray := p
    have hai : a ≠ it := fun z => by
      subst z
      obtain ⟨o1, q1, c1, _⟩ := p'
      obtain ⟨o2, q2, c2, _⟩ := hit
      rw [q1] at q2; cases q2; rw [c1] at c2; exact absurd c2 (by decide)
    have hea : e ≠ a := fun z => by
      subst z
      obtain ⟨o1, q1, c1, _⟩ := p'
      rw [show s.heap.get? e = _ from he] at q1; cases q1; exact absurd (show Value.type "enumerate" = Value.type "tuple" from c1) (by decide)
    have D := Draws.tuple (prog := X.prog) (w := X.w) (A := X.A.in1) (I.ok.hd hc) it a hai its.toArray
    refine wpAny_pyNext_enum_itemD D he ⟨hit, p'⟩ (by have := (List.getElem?_eq_some_iff.mp hu).1; simpa using this) hne (by simp [hne, hea]) fun x' h' tk hPx ho hit' hT hsz hk => ?_
    have exu : x' = u := by
      have : its.toArray[i]? = some x' := hPx
      rw [show its.toArray[i]? = some u by simpa using hu] at this
      exact (Option.some.inj this).symm
    subst exu
    refine ⟨_, rfl, wpAny_letOwnedTupleGo_enum (s := { s with heap := h', toks := tk + 1 }) ho fun h'' he' sb => ?_⟩
    have hT2 : h''.get? s.heap.objs.size = some { cls := .type "tuple", data := .seq #[.int i tk, x'] } := (sb.2 _ (Nat.ne_of_gt hel)).trans hT
    have new : ObjOk X.prog X.w (upd H s.heap.objs.size (.tup [.int (i : Nat), x])) h'' s.heap.objs.size (.tup [.int (i : Nat), x]) :=
      ⟨by show 2 ≤ sizeLine; decide, [.int i tk, x'], .cons ⟨_, rfl⟩ (.cons ru .nil), ⟨_, hT2, rfl, _, rfl⟩⟩
    have I1 : Inv X pins σ (upd H s.heap.objs.size (.tup [.int (i : Nat), x])) { s with heap := h'', toks := tk + 1 } :=
      I.turnedNew (ch := [e, it]) (fun b ob hb q => (sb.2 b (fun z => hb (by simp [z]))).trans (hk b ob (fun z => hb (by simp [z])) (fun z => hb (by simp [z])) q)) hf (Nat.le_refl _) new
    refine ⟨.ref s.heap.objs.size, _, I1, rfl, ⟨_, x, rfl, I.hok.fresh (Nat.le_refl _), rfl, fun ys hy => by rw [I.tuple_inj hy hq]; exact hx⟩, ⟨⟨x', ?_⟩, hit'.1.at fun o q => (sb.2 it (Ne.symm hne)).trans q, hne⟩, fun b hb => ?_⟩
    · have e1 : ((i + 1 : Nat) : Int) = (i : Int) + 1 := by omega
      rw [e1]; exact he'
    · have hb' : b < s.heap.objs.size := by
        have e' : b = e ∨ b = it := by simpa using hb
        rcases e' with z | z
        · rw [z]; exact hel
        · rw [z]; exact hil
      rw [upd_ne (Nat.ne_of_lt hb')]
      exact (hf b hb).1
  done := by
    intro X hP hw hK hc i pins s σ H E I hf st hg
    subst hP hw hK
    obtain ⟨⟨old, he⟩, hit, hne⟩ := st
    obtain ⟨xs, hq, hx⟩ := hg
    obtain ⟨its, rv, p, hz⟩ := I.tuple hq
    obtain ⟨f0, f1, f2, f3, f4, f5⟩ := hf it (by simp)
    have hl := rv.length
    have p' : s.heap.IsTuple a its.toArray := p
    have hT : s.TypeIs (.ref e) "enumerate" := ⟨_, he, rfl⟩
    unfold pyNext
    refine wpAny_bind (wpAny_attempt (wpAny_callSpecial?_slot (name := Str.ofString "__next__") hT F.slot_enumerate_next (wpAny_call_entry F.slot_enumerate_next hT F.entry_enumerate_next ?_ (F.args_enumerate_next_1 _))))
    show wpAny _ _ (field (.ref e) 2 >>= _) _ _ _
    refine wpAny_bind (wpAny_field he rfl (x := .ref it) rfl ?_)
    refine wpAny_bind (wpAny_nextOf_tuple_end (I.ok.hd hc) hit p' (by simp; omega) fun h' x he' hx' => ?_)
    obtain ⟨o, ho, hcl⟩ := hx'
    refine wpAny_bind (wpAny_isInstance (T := "StopIteration") (b := true) ⟨o, ho, hcl⟩ isSubtype_stop ?_)
    exact wpAny_pure ⟨rfl, I.turned (t' := s.toks) (fun b o hb q => he' b o hb q) f0 f1 f3 f4 f5⟩
  self := fun A i s Q E st h => let ⟨⟨_, he⟩, _⟩ := st; wpAny_pyIter_enum he h
end Ev

set_option Elab.async false
set_option linter.all false
set_option maxRecDepth 100000
set_option maxHeartbeats 1000000
/-! Sd: what loops walk; targets; statements. -/
namespace Ev
open PySem PySem.Spec PyProof.Rows L2
/-- what is walked, at a state -/
inductive ItS (K : PySem.W.Frag) (H : Hp) (μ : List Addr) : It → L2.It → Prop
  | lst {i : Nat} {a : Addr} : μ[i]? = some a → ItS K H μ (.val (.ref i)) (Itl K a)
  | tup {f : Bool} {a : Addr} {xs : List PV} {vs : List V} : SqT K H a vs → RVs K H μ xs vs → ItS K H μ (.val (.tup f xs)) (Itt K a)
  | str {s : List Nat} : TxOk s → ItS K H μ (.str s) (Its (txt s))
  | rng (lo : Int) (n : Nat) : ItS K H μ (.rng lo n) (Itr lo n)
  | enum {i : Nat} {a : Addr} : μ[i]? = some a → ItS K H μ (.enum (.ref i)) (Ite K a)
  | enumT {f : Bool} {a : Addr} {xs : List PV} {vs : List V} : SqT K H a vs → RVs K H μ xs vs → ItS K H μ (.enum (.tup f xs)) (IteT K a)
  | zip {i j : Nat} {a d : Addr} : μ[i]? = some a → μ[j]? = some d → ItS K H μ (.zip (.ref i) (.ref j)) (Itz K a d)
  | zipT {f g : Bool} {a d : Addr} {xs ys : List PV} {vs ws : List V} : SqT K H a vs → RVs K H μ xs vs → SqT K H d ws → RVs K H μ ys ws → ItS K H μ (.zip (.tup f xs) (.tup g ys)) (RZ.ItzT K a d)
theorem SqL.inj1 {K : PySem.W.Frag} {H : Hp} {a : Addr} : True := trivial
section
variable {K : PySem.W.Frag} {b : Nat} {H H' : Hp} {μ μ' : List Addr} {M M' : Mem}
theorem ItS.ext (x : Ext b H μ M H' μ' M') {i : It} {J : L2.It} (h : ItS K H μ i J) : ItS K H' μ' i J := by
  have up : ∀ {i : Nat} {a : Addr}, μ[i]? = some a → μ'[i]? = some a := fun {i a} e => by
    obtain ⟨ν, q, _⟩ := x.pre
    rw [q, List.getElem?_append_left (List.getElem?_eq_some_iff.mp e).1]
    exact e
  cases h with
  | lst e => exact .lst (up e)
  | tup h1 h2 => exact .tup (x.tupR h1) (h2.ext x)
  | str h => exact .str h
  | rng lo n => exact .rng lo n
  | enum e => exact .enum (up e)
  | enumT h1 h2 => exact .enumT (x.tupR h1) (h2.ext x)
  | zip e e' => exact .zip (up e) (up e')
  | zipT h1 h2 h3 h4 => exact .zipT (x.tupR h1) (h2.ext x) (x.tupR h3) (h4.ext x)
theorem lstAt_sq (m : RM K b H μ M) {i : Nat} {a : Addr} {xs : List PV} (e : μ[i]? = some a) (h : lstAt M i = some xs) : ∃ vs, SqL K H a vs ∧ RVs K H μ xs vs := by
  obtain ⟨o, ho, ro⟩ := m.at e
  have h : opt (nth M i) none Obj.items = some xs := h
  rw [nth_eq, ho] at h
  cases ro with
  | box _ _ => first | (cases e; done) | (cases e1; done) | (cases h; done) | (cases hk; done) | (cases q; done) | (exact False.elim q) | (exact False.elim h)
  | lst h1 h2 => cases h; exact ⟨_, .of h1, h2⟩
  | ro h1 h2 => cases h; exact ⟨_, h1.sq, h2⟩
  | dk h1 h2 => cases h
  | dt h1 h2 => cases h
/-- a step of what is walked -/
theorem ItS.stop (m : RM K b H μ M) {i : It} {J : L2.It} (h : ItS K H μ i J) {j : Nat} (e : itAt M i j = .stop) : J.stop j H := by
  cases h with
  | @lst i a q =>
    have e : opt (lstAt M i) Nx.no (fun xs => opt (nth xs j) Nx.stop Nx.item) = Nx.stop := e
    cases hl : lstAt M i with
    | none => rw [hl] at e; cases e
    | some xs =>
      rw [hl] at e
      have e : opt (nth xs j) Nx.stop Nx.item = Nx.stop := e
      obtain ⟨vs, h1, h2⟩ := lstAt_sq m q hl
      rw [nth_eq] at e
      cases hj : xs[j]? with
      | some x => rw [hj] at e; cases e
      | none => exact ⟨vs, h1, by rw [← h2.length]; exact List.getElem?_eq_none_iff.mp hj⟩
  | @tup f a xs vs h1 h2 =>
    have e : opt (nth xs j) Nx.stop Nx.item = Nx.stop := e
    rw [nth_eq] at e
    cases hj : xs[j]? with
    | some x => rw [hj] at e; cases e
    | none => exact ⟨vs, h1, by rw [← h2.length]; exact List.getElem?_eq_none_iff.mp hj⟩
  | @str s h =>
    have e : opt (nth s j) Nx.stop (fun c => Nx.item (.str [c])) = Nx.stop := e
    rw [nth_eq] at e
    cases hj : s[j]? with
    | some x => rw [hj] at e; cases e
    | none => exact List.getElem?_eq_none_iff.mp hj
  | rng lo n =>
    have e : yes (Nat.ble (Nat.succ j) n) (Nx.item (.int (Int.add lo (.ofNat j)))) Nx.stop = Nx.stop := e
    cases hb : Nat.ble (Nat.succ j) n with
    | true => rw [hb] at e; cases e
    | false =>
      show n ≤ j
      have : ¬ (j + 1 ≤ n) := fun q => by rw [← Nat.ble_eq] at q; rw [q] at hb; cases hb
      omega
  | @enum i a q =>
    have e : opt (lstAt M i) Nx.no (fun xs => opt (nth xs j) Nx.stop fun x => Nx.item (.tup false [.int (.ofNat j), x])) = Nx.stop := e
    cases hl : lstAt M i with
    | none => rw [hl] at e; cases e
    | some xs =>
      rw [hl] at e
      have e : opt (nth xs j) Nx.stop (fun x => Nx.item (.tup false [.int (.ofNat j), x])) = Nx.stop := e
      obtain ⟨vs, h1, h2⟩ := lstAt_sq m q hl
      rw [nth_eq] at e
      cases hj : xs[j]? with
      | some x => rw [hj] at e; cases e
      | none => exact ⟨vs, h1, by rw [← h2.length]; exact List.getElem?_eq_none_iff.mp hj⟩
  | @enumT f a xs vs h1 h2 =>
    have e : opt (nth xs j) Nx.stop (fun x => Nx.item (.tup false [.int (.ofNat j), x])) = Nx.stop := e
    rw [nth_eq] at e
    cases hj : xs[j]? with
    | some x => rw [hj] at e; cases e
    | none => exact ⟨vs, h1, by rw [← h2.length]; exact List.getElem?_eq_none_iff.mp hj⟩
  | @zip i k a d q q' =>
    have e : opt (lstAt M i) Nx.no (fun xs => opt (lstAt M k) Nx.no fun ys => opt (nth xs j) Nx.stop fun x => opt (nth ys j) Nx.stop fun y => Nx.item (.tup false [x, y])) = Nx.stop := e
    cases hl : lstAt M i with
    | none => rw [hl] at e; cases e
    | some xs =>
      cases hk : lstAt M k with
      | none => rw [hl, hk] at e; cases e
      | some ys =>
        rw [hl, hk] at e
        have e : (opt (nth xs j) Nx.stop fun x => opt (nth ys j) Nx.stop fun y => Nx.item (.tup false [x, y])) = Nx.stop := e
        obtain ⟨vs, h1, h2⟩ := lstAt_sq m q hl
        obtain ⟨ws, h3, h4⟩ := lstAt_sq m q' hk
        rw [nth_eq, nth_eq] at e
        refine ⟨vs, ws, h1, h3, ?_⟩
        cases hj : xs[j]? with
        | none => exact .inl (by rw [← h2.length]; exact List.getElem?_eq_none_iff.mp hj)
        | some x =>
          cases hj' : ys[j]? with
          | none => exact .inr (by rw [← h4.length]; exact List.getElem?_eq_none_iff.mp hj')
          | some y => rw [hj, hj'] at e; cases e
  | @zipT f g a d xs ys vs ws h1 h2 h3 h4 =>
    have e : (opt (nth xs j) Nx.stop fun x => opt (nth ys j) Nx.stop fun y => Nx.item (.tup false [x, y])) = Nx.stop := e
    rw [nth_eq, nth_eq] at e
    refine ⟨vs, ws, h1, h3, ?_⟩
    cases hj : xs[j]? with
    | none => exact .inl (by rw [← h2.length]; exact List.getElem?_eq_none_iff.mp hj)
    | some x =>
      cases hj' : ys[j]? with
      | none => exact .inr (by rw [← h4.length]; exact List.getElem?_eq_none_iff.mp hj')
      | some y => rw [hj, hj'] at e; cases e
theorem ItS.item (m : RM K b H μ M) {i : It} {J : L2.It} (h : ItS K H μ i J) {j : Nat} {p : PV} (e : itAt M i j = .item p) :
    J.go j H ∧ ∀ V H', J.yld j H V H' → Ext b H μ M H' μ M ∧ RM K b H' μ M ∧ RV K H' μ p V := by
  cases h with
  | @lst i a q =>
    have e : opt (lstAt M i) Nx.no (fun xs => opt (nth xs j) Nx.stop Nx.item) = Nx.item p := e
    cases hl : lstAt M i with
    | none => rw [hl] at e; cases e
    | some xs =>
      rw [hl] at e
      have e : opt (nth xs j) Nx.stop Nx.item = Nx.item p := e
      obtain ⟨vs, h1, h2⟩ := lstAt_sq m q hl
      rw [nth_eq] at e
      cases hj : xs[j]? with
      | none => rw [hj] at e; cases e
      | some x =>
        rw [hj] at e; cases e
        obtain ⟨v, hv, rv⟩ := h2.get hj
        refine ⟨⟨vs, v, h1, hv⟩, fun V H' y => ?_⟩
        obtain ⟨rfl, y⟩ := y
        have := y vs h1
        rw [hv] at this; cases this
        exact ⟨.refl, m, rv⟩
  | @tup f a xs vs h1 h2 =>
    have e : opt (nth xs j) Nx.stop Nx.item = Nx.item p := e
    rw [nth_eq] at e
    cases hj : xs[j]? with
    | none => rw [hj] at e; cases e
    | some x =>
      rw [hj] at e; cases e
      obtain ⟨v, hv, rv⟩ := h2.get hj
      refine ⟨⟨vs, v, h1, hv⟩, fun V H' y => ?_⟩
      obtain ⟨rfl, y⟩ := y
      have := y vs h1
      rw [hv] at this; cases this
      exact ⟨.refl, m, rv⟩
  | @str s h =>
    have e : opt (nth s j) Nx.stop (fun c => Nx.item (.str [c])) = Nx.item p := e
    rw [nth_eq] at e
    cases hj : s[j]? with
    | none => rw [hj] at e; cases e
    | some x =>
      rw [hj] at e; cases e
      refine ⟨(List.getElem?_eq_some_iff.mp hj).1, fun V H' y => ?_⟩
      obtain ⟨rfl, c, hc, rfl⟩ := y
      have hc : s[j]? = some c := by simpa [txt] using hc
      rw [hj] at hc; cases hc
      refine ⟨.refl, m, .str _ ⟨fun c hc => ?_, ?_⟩⟩
      · simp at hc; subst hc; exact h.1 _ (List.mem_of_getElem? hj)
      · show 1 ≤ sizeLine; decide
  | rng lo n =>
    have e : yes (Nat.ble (Nat.succ j) n) (Nx.item (.int (Int.add lo (.ofNat j)))) Nx.stop = Nx.item p := e
    cases hb : Nat.ble (Nat.succ j) n with
    | false => rw [hb] at e; cases e
    | true =>
      rw [hb] at e; cases e
      refine ⟨(by show j < n; exact Nat.le_of_ble_eq_true hb), fun V H' y => ?_⟩
      obtain ⟨rfl, rfl⟩ := y
      exact ⟨.refl, m, .int _⟩
  | @enum i a q =>
    have e : opt (lstAt M i) Nx.no (fun xs => opt (nth xs j) Nx.stop fun x => Nx.item (.tup false [.int (.ofNat j), x])) = Nx.item p := e
    cases hl : lstAt M i with
    | none => rw [hl] at e; cases e
    | some xs =>
      rw [hl] at e
      have e : opt (nth xs j) Nx.stop (fun x => Nx.item (.tup false [.int (.ofNat j), x])) = Nx.item p := e
      obtain ⟨vs, h1, h2⟩ := lstAt_sq m q hl
      rw [nth_eq] at e
      cases hj : xs[j]? with
      | none => rw [hj] at e; cases e
      | some x =>
        rw [hj] at e; cases e
        obtain ⟨v, hv, rv⟩ := h2.get hj
        refine ⟨⟨vs, v, h1, hv⟩, fun V H' y => ?_⟩
        obtain ⟨T, x', rfl, nT, rfl, y⟩ := y
        have := y vs h1
        rw [hv] at this; cases this
        have k := keepNew (o := .tup [.int (j : Nat), v]) nT
        exact ⟨Ext.same k, m.same k, .tup (f := false) upd_same (.cons (.int _) (.cons (rv.ext (Ext.same (b := b) (M := M) k)) .nil))⟩
  | @enumT f a xs vs h1 h2 =>
    have e : opt (nth xs j) Nx.stop (fun x => Nx.item (.tup false [.int (.ofNat j), x])) = Nx.item p := e
    rw [nth_eq] at e
    cases hj : xs[j]? with
    | none => rw [hj] at e; cases e
    | some x =>
      rw [hj] at e; cases e
      obtain ⟨v, hv, rv⟩ := h2.get hj
      refine ⟨⟨vs, v, h1, hv⟩, fun V H' y => ?_⟩
      obtain ⟨T, x', rfl, nT, rfl, y⟩ := y
      have := y vs h1
      rw [hv] at this; cases this
      have k := keepNew (o := .tup [.int (j : Nat), v]) nT
      exact ⟨Ext.same k, m.same k, .tup (f := false) upd_same (.cons (.int _) (.cons (rv.ext (Ext.same (b := b) (M := M) k)) .nil))⟩
  | @zip i k a d q q' =>
    have e : opt (lstAt M i) Nx.no (fun xs => opt (lstAt M k) Nx.no fun ys => opt (nth xs j) Nx.stop fun x => opt (nth ys j) Nx.stop fun y => Nx.item (.tup false [x, y])) = Nx.item p := e
    cases hl : lstAt M i with
    | none => rw [hl] at e; cases e
    | some xs =>
      cases hk : lstAt M k with
      | none => rw [hl, hk] at e; cases e
      | some ys =>
        rw [hl, hk] at e
        have e : (opt (nth xs j) Nx.stop fun x => opt (nth ys j) Nx.stop fun y => Nx.item (.tup false [x, y])) = Nx.item p := e
        obtain ⟨vs, h1, h2⟩ := lstAt_sq m q hl
        obtain ⟨ws, h3, h4⟩ := lstAt_sq m q' hk
        rw [nth_eq, nth_eq] at e
        cases hj : xs[j]? with
        | none => rw [hj] at e; cases e
        | some x =>
          cases hj' : ys[j]? with
          | none => rw [hj, hj'] at e; cases e
          | some y =>
            rw [hj, hj'] at e; cases e
            obtain ⟨v, hv, rv⟩ := h2.get hj
            obtain ⟨w, hw, rw'⟩ := h4.get hj'
            refine ⟨⟨vs, ws, v, w, h1, h3, hv, hw⟩, fun V H' z => ?_⟩
            obtain ⟨T, x', y', rfl, nT, rfl, z1, z2⟩ := z
            have t1 := z1 vs h1
            rw [hv] at t1; cases t1
            have t2 := z2 ws h3
            rw [hw] at t2; cases t2
            have k := keepNew (o := .tup [v, w]) nT
            exact ⟨Ext.same k, m.same k, .tup (f := false) upd_same (.cons (rv.ext (Ext.same (b := b) (M := M) k)) (.cons (rw'.ext (Ext.same (b := b) (M := M) k)) .nil))⟩
  | @zipT f g a d xs ys vs ws h1 h2 h3 h4 =>
    have e : (opt (nth xs j) Nx.stop fun x => opt (nth ys j) Nx.stop fun y => Nx.item (.tup false [x, y])) = Nx.item p := e
    rw [nth_eq, nth_eq] at e
    cases hj : xs[j]? with
    | none => rw [hj] at e; cases e
    | some x =>
      cases hj' : ys[j]? with
      | none => rw [hj, hj'] at e; cases e
      | some y =>
        rw [hj, hj'] at e; cases e
        obtain ⟨v, hv, rv⟩ := h2.get hj
        obtain ⟨w, hw, rw'⟩ := h4.get hj'
        refine ⟨⟨vs, ws, v, w, h1, h3, hv, hw⟩, fun V H' z => ?_⟩
        obtain ⟨T, x', y', rfl, nT, rfl, z1, z2⟩ := z
        have t1 := z1 vs h1
        rw [hv] at t1; cases t1
        have t2 := z2 ws h3
        rw [hw] at t2; cases t2
        have k := keepNew (o := .tup [v, w]) nT
        exact ⟨Ext.same k, m.same k, .tup (f := false) upd_same (.cons (rv.ext (Ext.same (b := b) (M := M) k)) (.cons (rw'.ext (Ext.same (b := b) (M := M) k)) .nil))⟩
end
end Ev

set_option Elab.async false
set_option linter.all false
set_option maxRecDepth 100000
set_option maxHeartbeats 1000000
/-! Se2: what loops walk, as readings. -/
namespace Ev
open PySem PySem.Spec PyProof.Rows L2
/-- an iterator's wish -/
def Fr.Gi (F : Fr) (H : Hp) (μ : List Addr) (M : Mem) (R : L2.It → Hp → Prop) (i : It) (M' : Mem) : Prop := ∀ H' μ' J, F.Ext H μ M H' μ' M' → F.RM H' μ' M' → ItS F.K H' μ' i J → R J H'
def tI (F : Fr) (i : Si) : TI := fun σ H R => ∃ μ M ρ, F.At σ H μ M ρ ∧ Ok (i F.c ρ M) (F.Gi H μ M R) (F.Ge H μ M σ)
theorem _root_.L2.PI.imp {X : Cx} {tg e : Expr} {t t' : TI} (h : PI X tg e t) (i : ∀ σ H Q, t' σ H Q → t σ H Q) : PI X tg e t' := ⟨fun pins s σ H Q I q => h.run pins s σ H Q I (i σ H Q q)⟩
section
variable {X : Cx} {F : Fr} {pos : Pos} {H H' : Hp} {μ μ' : List Addr} {M M' : Mem}
theorem kindSq_ok {β : Type} {K : PySem.W.Frag} {b : Nat} {v : PV} {V : L2.V} {f : Bool → Res β} {G : β → Mem → Prop} {E : Nat → List PV → Mem → Prop} (m : RM K b H μ M) (r : RV K H μ v V) (h : Ok (opt (kindSq M v) .no f) G E) :
    (∃ a i xs vs, v = .ref i ∧ V = .ref a ∧ μ[i]? = some a ∧ lstAt M i = some xs ∧ SqL K H a vs ∧ RVs K H μ xs vs ∧ Ok (f false) G E) ∨ (∃ k a xs vs, v = .tup k xs ∧ V = .ref a ∧ SqT K H a vs ∧ RVs K H μ xs vs ∧ Ok (f true) G E) := by
  cases r with
  | tup s l => exact .inr ⟨_, _, _, _, rfl, rfl, s.sq, l, h⟩
  | @ref i a e =>
    have h : Ok (opt (opt (lstAt M i) none fun _ => some false) .no f) G E := h
    cases hl : lstAt M i with
    | none => rw [hl] at h; exact h.elim
    | some xs =>
      rw [hl] at h
      obtain ⟨vs, h1, h2⟩ := lstAt_sq m e hl
      exact .inl ⟨_, _, _, _, rfl, rfl, e, hl, h1, h2, h⟩
  | non => exact h.elim
  | bl => exact h.elim
  | int => exact h.elim
  | str => exact h.elim
/-- a list, a tuple, a text by its value -/
theorem pi_any {tg e : Expr} {te : TE} (he : PE X e te) : PI X tg e (fun σ H R => te σ H fun x H1 => (∃ a, x = .ref a ∧ (∃ xs, SqL X.K H1 a xs) ∧ R (Itl X.K a) H1) ∨ (∃ a, x = .ref a ∧ (∃ xs, SqT X.K H1 a xs) ∧ R (Itt X.K a) H1) ∨ (∃ z, x = .str z ∧ R (Its z) H1)) := by
  refine ⟨fun pins s σ H R I h => ?_⟩
  refine thn (he.run pins s σ H _ I h) fun v s1 ⟨x, H1, I1, r1, q1⟩ => ?_
  rcases q1 with ⟨a, rfl, ⟨xs, hq⟩, q⟩ | ⟨a, rfl, ⟨xs, hq⟩, q⟩ | ⟨z, rfl, q⟩
  · obtain ⟨its, rv, p, hz⟩ := I1.list hq
    cases r1
    exact wpAny_pyIter_list p.isList (pi_one (tk := s1.toks) I1 _ (turn_list a _) ⟨_, Heap.get?_push_size _ rfl, rfl, rfl⟩ q)
  · obtain ⟨its, rv, p, hz⟩ := I1.tuple hq
    cases r1
    exact wpAny_pyIter_tuple (show s1.heap.IsTuple a its.toArray from p) (pi_one (tk := s1.toks) I1 _ (turn_tuple a _) ⟨_, Heap.get?_push_size _ rfl, rfl, rfl⟩ q)
  · obtain ⟨t, rfl⟩ := r1
    cases hw : z.cps.all (· < 128) with
    | false => exact wpAny_pyIter_wide hw (pi_one (tk := s1.toks) I1 _ (turn_str _ z t "str_iterator" (.inr rfl)) ⟨_, Heap.get?_push_size _ rfl, rfl, rfl⟩ q)
    | true => exact wpAny_pyIter_ascii hw (pi_one (tk := s1.toks) I1 _ (turn_str _ z t "str_ascii_iterator" (.inl rfl)) ⟨_, Heap.get?_push_size _ rfl, rfl, rfl⟩ q)
theorem i_val {tg e : Expr} {x : Se} (hK : F.K = X.K) (he : PE X e (tE F x)) : PI X tg e (tI F (iVal x)) := by
  refine (pi_any he).imp fun σ H R q => ?_
  obtain ⟨μ, M, ρ, A, q⟩ := q
  refine ⟨μ, M, ρ, A, (Ok.bind.mp q).mono (fun v M1 q V H1 μ1 x1 m1 r1 => ?_) fun _ _ _ q => q⟩
  rw [← hK]
  cases r1 with
  | tup s l => exact .inr (.inl ⟨_, rfl, ⟨_, s.sq⟩, q H1 μ1 _ x1 m1 (.tup s.sq l)⟩)
  | str s h => exact .inr (.inr ⟨_, rfl, q H1 μ1 _ x1 m1 (.str h)⟩)
  | @ref i a e =>
    have q : Ok (opt (lstAt M1 i) .no fun _ => Res.ok (It.val (.ref i)) M1) (F.Gi H μ M R) (F.Ge H μ M σ) := q
    cases hl : lstAt M1 i with
    | none => rw [hl] at q; exact q.elim
    | some xs =>
      rw [hl] at q
      obtain ⟨vs, h1, h2⟩ := lstAt_sq m1 e hl
      exact .inl ⟨_, rfl, ⟨_, h1⟩, q H1 μ1 _ x1 m1 (.lst e)⟩
  | non => exact q.elim
  | bl => exact q.elim
  | int => exact q.elim
theorem rngOk_iff {i j : Int} (h : rngOk i j = true) : -(2 ^ 62) ≤ i ∧ i < 2 ^ 62 ∧ -(2 ^ 62) ≤ j ∧ j < 2 ^ 62 := by
  unfold rngOk at h
  have e : two62 = 2 ^ 62 := rfl
  rw [intLe_iff, intLt_iff, intLe_iff, intLt_iff, e] at h
  have s : ∀ {a b : Bool}, yes a b false = true → a = true ∧ b = true := fun {a b} h => by cases a <;> cases b <;> first | exact ⟨rfl, rfl⟩ | cases h
  obtain ⟨h1, h⟩ := s h
  obtain ⟨h2, h⟩ := s h
  obtain ⟨h3, h4⟩ := s h
  simp only [decide_eq_true_eq] at h1 h2 h3 h4
  exact ⟨h1, h2, h3, h4⟩
theorem yes_ok {β : Type} {k : Bool} {r : Res β} {G : β → Mem → Prop} {E : Nat → List PV → Mem → Prop} (h : Ok (yes k r .no) G E) : k = true ∧ Ok r G E := by
  cases k
  · exact h.elim
  · exact ⟨rfl, h⟩
theorem onI_ok {β : Type} {K : PySem.W.Frag} {v : PV} {V : L2.V} {f : Int → Res β} {G : β → Mem → Prop} {E : Nat → List PV → Mem → Prop} (r : RV K H μ v V) (h : Ok (v.onI .no f) G E) : ∃ i, v = .int i ∧ V = .int i ∧ Ok (f i) G E := by
  cases r <;> first | exact ⟨_, rfl, rfl, h⟩ | exact h.elim
theorem i_rng1 {tg a : Expr} {p : Pos} {x : Se} (hg : Gl X "range") (hm : X.mg "range" = none) (ha : PA X [a] (tL F (lCons x lNil))) (hs : starEach [a] X.env = [(false, eval a X.env)]) : PI X tg (.Call (.Name "range" p) [a] [] pos) (tI F (Ev.iRng1 x)) := by
  refine (pi_range1 hg hm ha hs).imp fun σ H R q => ?_
  obtain ⟨μ, M, ρ, A, q⟩ := q
  refine ⟨μ, M, ρ, A, Ok.bind.mpr ((Ok.bind.mp q).mono (fun v M1 q V H1 μ1 x1 m1 r1 => ?_) fun _ _ _ q => q)⟩
  cases r1 with
  | cons r rr =>
    cases rr
    obtain ⟨j, rfl, rfl, q⟩ := onI_ok r q
    obtain ⟨k, q⟩ := yes_ok q
    have b := rngOk_iff k
    exact ⟨j, rfl, b.2.2.1, b.2.2.2, q H1 μ1 _ x1 m1 (.rng 0 j.toNat)⟩
theorem i_rng2 {tg a c : Expr} {p : Pos} {x y : Se} (hg : Gl X "range") (hm : X.mg "range" = none) (ha : PA X [a, c] (tL F (lCons x (lCons y lNil)))) (hs : starEach [a, c] X.env = [(false, eval a X.env), (false, eval c X.env)]) (hs2 : starEach [c] X.env = [(false, eval c X.env)]) :
    PI X tg (.Call (.Name "range" p) [a, c] [] pos) (tI F (Ev.iRng2 x y)) := by
  refine (pi_range2 hg hm ha hs hs2).imp fun σ H R q => ?_
  obtain ⟨μ, M, ρ, A, q⟩ := q
  refine ⟨μ, M, ρ, A, Ok.bind.mpr ((Ok.bind.mp q).mono (fun v M1 q => ?_) fun _ _ _ q => q)⟩
  refine Ok.bind.mpr (Ok.bind.mpr ((Ok.bind.mp q).mono (fun w M2 q V H1 μ1 x1 m1 r1 => ?_) fun _ _ _ q => q))
  cases r1 with
  | cons r rr =>
    cases rr with
    | cons r2 rr =>
      cases rr
      obtain ⟨i, rfl, rfl, q⟩ := onI_ok r q
      obtain ⟨j, rfl, rfl, q⟩ := onI_ok r2 q
      obtain ⟨k, q⟩ := yes_ok q
      exact ⟨i, j, rfl, rngOk_iff k, q H1 μ1 _ x1 m1 (.rng i (j - i).toNat)⟩
/-- enumerate of a list or a tuple -/
theorem pi_enumA {e : Expr} {ta : TA} {p tpos : Pos} {elts : List Expr} {kk : Nat} (hg : Gl X "enumerate") (hm : X.mg "enumerate" = none) (ha : PA X [e] ta) (hs : starEach [e] X.env = [(false, eval e X.env)]) :
    PI X (.Tuple elts kk tpos) (.Call (.Name "enumerate" p) [e] [] pos) (fun σ H R => ta σ H fun vs H1 => ∃ a xs, vs = [.ref a] ∧ ((SqL X.K H1 a xs ∧ R (Ite X.K a) H1) ∨ (SqT X.K H1 a xs ∧ R (IteT X.K a) H1))) := by
  refine ⟨fun pins s σ H R I h => ?_⟩
  refine Call_ (ld_blt I hg hm boot_enumerate (PyProof.Rows.callWith_type1 (thn (ha.run pos pins s σ H _ I h) fun us s1 ⟨vs, H1, I1, r1, q1⟩ => ?_) hs rfl))
  obtain ⟨a, xs, rfl, q1⟩ := q1
  have fr : ∀ c, c ∈ [s1.heap.objs.size + 1, s1.heap.objs.size] → FpOk X pins H1 c := fun c hc => by
    have hle : s1.heap.objs.size ≤ c := by
      simp at hc
      rcases hc with z | z
      · rw [z]; exact Nat.le_add_right _ _
      · rw [z]; exact Nat.le_refl _
    exact I1.fpOk hle (I1.hok.fresh hle)
  cases r1 with
  | cons r rr =>
    cases rr
    cases r
    rcases q1 with ⟨hq, q⟩ | ⟨hq, q⟩
    · obtain ⟨its, rv, p', hz⟩ := I1.list hq
      exact call_enumerate_list p'.isList fun h' he hit hsz hk => wpAny_pyIter_enum he ⟨s1.heap.objs.size + 1, [s1.heap.objs.size + 1, s1.heap.objs.size], _, _, H1, rfl, I1.kept (t' := s1.toks) hk, turn_enum a _ _, ⟨⟨.none, he⟩, hit, Nat.succ_ne_self _⟩, fr, q⟩
    · obtain ⟨its, rv, p', hz⟩ := I1.tuple hq
      exact callEnumT (show s1.heap.IsTuple a its.toArray from p') fun h' he hit hk => wpAny_pyIter_enum he ⟨s1.heap.objs.size + 1, [s1.heap.objs.size + 1, s1.heap.objs.size], _, _, H1, rfl, I1.kept (t' := s1.toks) hk, turn_enumT a _ _, ⟨⟨.none, he⟩, hit, Nat.succ_ne_self _⟩, fr, q⟩
theorem i_enum {e : Expr} {p tpos : Pos} {elts : List Expr} {kk : Nat} {x : Se} (hK : F.K = X.K) (hg : Gl X "enumerate") (hm : X.mg "enumerate" = none) (ha : PA X [e] (tL F (lCons x lNil))) (hs : starEach [e] X.env = [(false, eval e X.env)]) :
    PI X (.Tuple elts kk tpos) (.Call (.Name "enumerate" p) [e] [] pos) (tI F (Ev.iEnum x)) := by
  refine (pi_enumA hg hm ha hs).imp fun σ H R q => ?_
  obtain ⟨μ, M, ρ, A, q⟩ := q
  refine ⟨μ, M, ρ, A, Ok.bind.mpr ((Ok.bind.mp q).mono (fun v M1 q V H1 μ1 x1 m1 r1 => ?_) fun _ _ _ q => q)⟩
  rw [← hK]
  cases r1 with
  | cons r rr =>
    cases rr
    rcases kindSq_ok m1 r q with ⟨a, i, xs, vs, rfl, rfl, e1, e2, h1, h2, q⟩ | ⟨f, a, xs, vs, rfl, rfl, h1, h2, q⟩
    · exact ⟨a, vs, rfl, .inl ⟨h1, q H1 μ1 _ x1 m1 (.enum e1)⟩⟩
    · exact ⟨a, vs, rfl, .inr ⟨h1, q H1 μ1 _ x1 m1 (.enumT h1 h2)⟩⟩
theorem i_zip {e e2 : Expr} {p tpos : Pos} {elts : List Expr} {kk : Nat} {x y : Se} (hK : F.K = X.K) (hg : Gl X "zip") (hm : X.mg "zip" = none) (ha : PA X [e, e2] (tL F (lCons x (lCons y lNil))))
    (hs : starEach [e, e2] X.env = (false, eval e X.env) :: starEach [e2] X.env) (hpl : (backTo pos (starEach [e2] X.env)).any (·.1) = false) :
    PI X (.Tuple elts kk tpos) (.Call (.Name "zip" p) [e, e2] [] pos) (tI F (Ev.iZip x y)) := by
  refine (RZ.pi_zipA hg hm ha hs hpl).imp fun σ H R q => ?_
  obtain ⟨μ, M, ρ, A, q⟩ := q
  refine ⟨μ, M, ρ, A, Ok.bind.mpr ((Ok.bind.mp q).mono (fun v M1 q => ?_) fun _ _ _ q => q)⟩
  refine Ok.bind.mpr (Ok.bind.mpr ((Ok.bind.mp q).mono (fun w M2 q V H1 μ1 x1 m1 r1 => ?_) fun _ _ _ q => q))
  rw [← hK]
  cases r1 with
  | cons r rr =>
    cases rr with
    | cons r2 rr =>
      cases rr
      rcases kindSq_ok m1 r q with ⟨a, i, xs, vs, rfl, rfl, e1, e2, h1, h2, q⟩ | ⟨f, a, xs, vs, rfl, rfl, h1, h2, q⟩ <;>
        rcases kindSq_ok m1 r2 q with ⟨a', i', xs', vs', rfl, rfl, e1', e2', h1', h2', q⟩ | ⟨f', a', xs', vs', rfl, rfl, h1', h2', q⟩
      · exact ⟨a, a', vs, vs', rfl, .inl ⟨h1, h1', q H1 μ1 _ x1 m1 (.zip e1 e1')⟩⟩
      · exact q.elim
      · exact q.elim
      · exact ⟨a, a', vs, vs', rfl, .inr ⟨h1, h1', q H1 μ1 _ x1 m1 (.zipT h1 h2 h1' h2')⟩⟩
end
end Ev

set_option Elab.async false
set_option linter.all false
set_option maxRecDepth 100000
set_option maxHeartbeats 1000000
/-! Sf: targets, comprehensions. -/
namespace Ev
open PySem PySem.Spec PyProof.Rows L2
theorem Ok.bindN {α β : Type} {r : Res α} {f : α → Mem → Res β} {G : β → Mem → Prop} {E : Nat → List PV → Mem → Prop} (h : Ok (r.bindN f) G E) : Ok r (fun a M => Ok (f a M) G E) fun _ _ _ => False := by
  induction r with
  | ch n g ih => exact fun i hi => ih i (h i hi)
  | _ => exact h
theorem wipe_set {σ : L2.St} {i : Nat} {w : Option V} : ∀ {vs : List Nat}, i ∈ vs → L2.wipe (σ.set i w) vs = L2.wipe σ vs
  | [], h => by simp at h
  | v :: vs, h => by
    show (L2.wipe (σ.set i w) vs).set v none = (L2.wipe σ vs).set v none
    by_cases hv : i ∈ vs
    · rw [wipe_set hv]
    · have e : i = v := by
        rcases List.mem_cons.mp h with e | e
        · exact e
        · exact absurd e hv
      subst e
      have com : ∀ (us : List Nat), i ∉ us → L2.wipe (σ.set i w) us = (L2.wipe σ us).set i w := by
        intro us
        induction us with
        | nil => intro _; rfl
        | cons u us ih =>
          intro hn
          simp only [List.mem_cons, not_or] at hn
          show (L2.wipe (σ.set i w) us).set u none = ((L2.wipe σ us).set u none).set i w
          rw [ih hn.2, List.set_comm _ _ hn.1]
      rw [com vs hv, List.set_set]
theorem wipe_wipe {σ : L2.St} : ∀ {vs ws : List Nat}, (∀ i ∈ vs, i ∈ ws) → L2.wipe (L2.wipe σ vs) ws = L2.wipe σ ws
  | [], _, _ => rfl
  | v :: vs, ws, h => by
    show L2.wipe ((L2.wipe σ vs).set v none) ws = _
    rw [wipe_set (h v List.mem_cons_self)]
    exact wipe_wipe fun i hi => h i (List.mem_cons_of_mem _ hi)
/-! ### targets -/
/-- ns: the names that are written -/
def Fr.Gg (F : Fr) (σ : L2.St) (H : Hp) (μ : List Addr) (M : Mem) (ns : List Nat) (Q : L2.St → Hp → Prop) (ρ' : Rho) (M' : Mem) : Prop :=
  ∀ σ' H' μ', F.Ext H μ M H' μ' M' → F.At σ' H' μ' M' ρ' → (∀ vs, (∀ i ∈ ns, i ∈ vs) → L2.wipe σ' vs = L2.wipe σ vs) → Q σ' H'
def tG (F : Fr) (ns : List Nat) (g : Sg) : TG := fun v σ H Q => ∃ μ M ρ p, F.At σ H μ M ρ ∧ RV F.K H μ p v ∧ Ok (g p F.c ρ M) (F.Gg σ H μ M ns Q) fun _ _ _ => False
def tGl (F : Fr) (ns : List Nat) (g : Sgl) : TGs := fun v σ H Q => ∃ μ M ρ p, F.At σ H μ M ρ ∧ RVs F.K H μ p v ∧ Ok (g p F.c ρ M) (F.Gg σ H μ M ns Q) fun _ _ _ => False
theorem _root_.L2.PG.imp {X : Cx} {e : Expr} {t t' : TG} (h : PG X e t) (i : ∀ v σ H Q, t' v σ H Q → t v σ H Q) : PG X e t' := ⟨fun pins s σ H v u Q I r q => h.run pins s σ H v u Q I r (i v σ H Q q)⟩
theorem _root_.L2.PGs.imp {X : Cx} {e : List Expr} {t t' : TGs} (h : PGs X e t) (i : ∀ v σ H Q, t' v σ H Q → t v σ H Q) : PGs X e t' := ⟨fun pins s σ H v u Q I r q => h.run pins s σ H v u Q I r (i v σ H Q q)⟩
section
variable {X : Cx} {F : Fr} {pos : Pos} {H H' : Hp} {μ μ' : List Addr} {M M' : Mem}
theorem g_name {i : Nat} {x : Str} (hN : X.N.Nodup) (hi : X.N[i]? = some x) (hx : Loc X.env.scope x) (hf : X.fn x = true ∨ X.env.scope.names.lookup x = some .local) : PG X (.Name x pos) (tG F [i] (Ev.gName i)) := by
  refine (pg_name hN hi hx hf).imp fun v σ H Q q => ?_
  obtain ⟨μ, M, ρ, p, A, r, q⟩ := q
  have q : F.Gg σ H μ M [i] Q (setL ρ (some p) i) M := q
  rw [setL_eq] at q
  exact q _ H μ .refl ⟨A.m, A.s.set r⟩ fun vs h => wipe_set (h i List.mem_cons_self)
theorem gs_nil : PGs X [] (tGl F [] glNil) := by
  refine pgs_nil.imp fun v σ H Q q => ?_
  obtain ⟨μ, M, ρ, p, A, r, q⟩ := q
  cases r with
  | nil => exact ⟨rfl, q σ H μ .refl A fun _ _ => rfl⟩
  | cons _ _ => exact q.elim
theorem gs_cons {e : Expr} {es : List Expr} {ns ms : List Nat} {g : Sg} {l : Sgl} (h1 : PG X e (tG F ns g)) (h2 : PGs X es (tGl F ms l)) (hs : (assignEach (e :: es) X.env).map (·.2) = assign e X.env :: (assignEach es X.env).map (·.2)) :
    PGs X (e :: es) (tGl F (ns ++ ms) (glCons g l)) := by
  refine (pgs_cons h1 h2 hs).imp fun v σ H Q q => ?_
  obtain ⟨μ, M, ρ, p, A, r, q⟩ := q
  cases r with
  | nil => exact q.elim
  | @cons x v xs vs r rr =>
    refine ⟨_, _, rfl, μ, M, ρ, _, A, r, (Ok.bind.mp (show Ok ((g x F.c ρ M).bind fun ρ1 M1 => l xs F.c ρ1 M1) _ _ from q)).mono (fun ρ1 M1 q σ1 H1 μ1 x1 a1 w1 => ?_) fun _ _ _ q => q⟩
    refine ⟨μ1, M1, ρ1, _, a1, rr.ext x1, q.mono (fun ρ2 M2 q σ2 H2 μ2 x2 a2 w2 => ?_) fun _ _ _ q => q⟩
    exact q σ2 H2 μ2 (x1.trans x2) a2 fun vs h => (w2 vs fun i hi => h i (List.mem_append_right _ hi)).trans (w1 vs fun i hi => h i (List.mem_append_left _ hi))
theorem g_tup {es : List Expr} {k n : Nat} {ns : List Nat} {l : Sgl} (hK : F.K = X.K) (hc : X.calm = true) (h : PGs X es (tGl F ns l)) (hn : (assignEach es X.env).length = n) (hst : (assignEach es X.env).findIdx? (·.1) = none) : PG X (.Tuple es k pos) (tG F ns (Ev.gTup n l)) := by
  refine (pg_tup hc h hn hst).imp fun v σ H Q q => ?_
  obtain ⟨μ, M, ρ, p, A, r, q⟩ := q
  rw [← hK]
  cases r with
  | @tup f a xs vs s r =>
    obtain ⟨e, q⟩ := yes_ok (show Ok (yes (Nat.beq (len xs) n) (l xs F.c ρ M) .no) _ _ from q)
    rw [Nat.beq_eq, len_eq] at e
    exact ⟨a, vs, rfl, s.sq, by rw [← r.length]; exact e, μ, M, ρ, _, A, r, q⟩
  | _ => exact q.elim
/-- what may be put: o[i] = v -/
def RPut (F : Fr) : TSet := fun o i v H Q => ∃ μ M po pi pv M', F.RM H μ M ∧ RV F.K H μ po o ∧ RV F.K H μ pi i ∧ RV F.K H μ pv v ∧ evPut F.c.b M po pi pv = some M' ∧ ∀ H' μ', F.Ext H μ M H' μ' M' → F.RM H' μ' M' → Q H'
theorem g_sub {o i : Expr} {x y : Se} (hs : PSet X (RPut F)) (ho : PE X o (tE F x)) (hi : PE X i (tE F y))
    (ha : ∀ v, assign (.Subscript o i pos) X.env v = (do
      let ov ← holding [v] (eval o X.env)
      let iv ← holding [v, ov] (eval i X.env)
      standAt pos
      holding [v, ov, iv] (setItem ov iv v)
      release [v, ov, iv] [])) : PG X (.Subscript o i pos) (tG F [] (Ev.gSub x y)) := by
  refine (pg_sub ho hi hs ha).imp fun v σ H Q q => ?_
  obtain ⟨μ, M, ρ, p, A, r, q⟩ := q
  refine ⟨μ, M, ρ, A, (Ok.bind.mp q).mono (fun ov M1 q V1 H1 μ1 x1 m1 r1 => ?_) fun _ _ _ q => q.elim⟩
  refine ⟨μ1, M1, ρ, A.go x1 m1, (Ok.bind.mp q).mono (fun iv M2 q V2 H2 μ2 x2 m2 r2 => ?_) fun _ _ _ q => q.elim⟩
  cases e : evPut F.c.b M2 ov iv p with
  | none => rw [e] at q; exact q.elim
  | some M3 =>
    rw [e] at q
    refine ⟨μ2, M2, ov, iv, p, M3, m2, r1.ext x2, r2, r.ext (x1.trans x2), e, fun H3 μ3 x3 m3 => ?_⟩
    exact q σ H3 μ3 ((x1.trans x2).trans x3) ((A.go (x1.trans x2) m2).go x3 m3) fun _ _ => rfl
/-! ### comprehensions -/
/-- a block's frame: no exception leaves it -/
def Fr.blk (F : Fr) : Fr := { F with W := fun _ _ _ _ => False }
/-- a clause's tests -/
def tB (F : Fr) (k : Sb) : TT := fun σ H Q => ∃ μ M ρ, F.At σ H μ M ρ ∧ Ok (k F.c ρ M) (fun b M' => ∀ H' μ', F.Ext H μ M H' μ' M' → F.RM H' μ' M' → Q b H') fun _ _ _ => False
theorem _root_.L2.PTs.imp {X : Cx} {e : List Expr} {t t' : TT} (h : PTs X e t) (i : ∀ σ H Q, t' σ H Q → t σ H Q) : PTs X e t' := ⟨fun pins s σ H Q I q => h.run pins s σ H Q I (i σ H Q q)⟩
theorem b_yes : PTs X [] (tB F bYes) := by
  refine pts_nil.imp fun σ H Q q => ?_
  obtain ⟨μ, M, ρ, A, q⟩ := q
  exact q H μ .refl A.m
theorem b_if {c : Expr} {x : Se} (h : PT X c (tX F x)) : PTs X [c] (tB F (bIf x)) := by
  refine (pts_one h).imp fun σ H Q q => ?_
  obtain ⟨μ, M, ρ, A, q⟩ := q
  refine ⟨μ, M, ρ, A, (Ok.bind.mp q).mono (fun v M1 q H1 μ1 x1 m1 => ?_) fun _ _ _ q => q.elim⟩
  cases e : tru M1 v with
  | none => rw [e] at q; exact q.elim
  | some k => rw [e] at q; exact ⟨k, rfl, q H1 μ1 x1 m1⟩
theorem Nx.ok {β : Type} {x : Nx} {s : Res β} {f : PV → Res β} {G : β → Mem → Prop} {E : Nat → List PV → Mem → Prop} (h : Ok (x.el .no s f) G E) : (x = .stop ∧ Ok s G E) ∨ ∃ v, x = .item v ∧ Ok (f v) G E := by
  cases x with
  | no => exact h.elim
  | stop => exact .inl ⟨rfl, h⟩
  | item v => exact .inr ⟨v, rfl, h⟩
theorem RVs.one {K : PySem.W.Frag} {p : PV} {V : L2.V} (h : RV K H μ p V) : RVs K H μ [p] [V] := .cons h .nil
/-- the reading of a list comprehension, the block's turns by the evaluator -/
theorem toLc {ns own : List Nat} {elt : Se} {g : Sg} {i : Si} {k : Sb} (hsub : ∀ j ∈ ns, j ∈ own) {σ : L2.St} {H : Hp} {Q : VK} (q : tE F (sComp elt g i k own) σ H Q) :
    tLc (tI F i) (tG F.blk ns g) (tB F.blk k) (tE F.blk elt) own σ H Q := by
  obtain ⟨μ, M, ρ, A, q⟩ := q
  refine ⟨μ, M, ρ, A, (Ok.bind.mp q).mono (fun it M1 q H1 μ1 J x1 m1 hJ => ?_) fun _ _ _ q => q⟩
  intro D nD
  have q := Ok.bind.mp q
  have A1 : F.At σ H1 μ1 M1 ρ := A.go x1 m1
  refine ⟨fun j m H' => ∃ μ' M' acc vs, F.Ext H1 μ1 M1 H' μ' M' ∧ F.RM H' μ' M' ∧ H' D = some (.lst vs) ∧ Free μ' M' D ∧ RVs F.K H' μ' acc.reverse vs ∧ acc.length ≤ j ∧ j + m = turns ∧
    Ok (compL elt g k it F.c (Ev.wipe ρ own) m j acc M') (fun ws M2 => Ok (new M2 (.lst ws)) (F.Gd H μ M Q) (F.Ge H μ M σ)) (F.Ge H μ M σ), ⟨turns, ?_⟩, ?_⟩
  · have kp := keepNew (o := .lst []) nD
    refine ⟨μ1, M1, [], [], Ext.same kp, m1.same kp, upd_same, free_new m1 nD, .nil, Nat.le_refl _, Nat.zero_add _, ?_⟩
    exact q
  · rintro j m H2 ⟨μ2, M2, acc, vs, x2, m2, hD, fD, rv, hl, hm, q⟩
    cases m with
    | zero => exact q.elim
    | succ m =>
      have hJ2 : ItS F.K H2 μ2 it J := hJ.ext x2
      rcases Nx.ok (show Ok ((itAt M2 it j).el .no (.ok (rev acc) M2) fun v => (g v F.c (Ev.wipe ρ own) M2).bindN fun ρ1 M1 => (k F.c ρ1 M1).bindN fun b M2 => yes b ((elt F.c ρ1 M2).bindN fun y M3 => compL elt g k it F.c (Ev.wipe ρ own) m (Nat.succ j) (y :: acc) M3) (compL elt g k it F.c (Ev.wipe ρ own) m (Nat.succ j) acc M2)) _ _ from q) with ⟨e, q⟩ | ⟨p, e, q⟩
      · refine .inl ⟨hJ2.stop m2 e, ?_⟩
        have q : F.Gd H μ M Q (.ref (len M2)) (app M2 [.lst (rev acc)]) := q
        rw [len_eq, app_eq, rev_eq] at q
        have ro : RO F.K H2 μ2 D (.lst acc.reverse) := .lst hD rv
        have m3 := m2.adopt fD ro
        have x3 : F.Ext H1 μ1 M1 H2 (μ2 ++ [D]) (M2 ++ [.lst acc.reverse]) := x2.adopt m2 m1 nD
        refine q _ _ _ (x1.trans x3) m3 (.ref ?_)
        rw [← m2.len, List.getElem?_append_right (Nat.le_refl _), Nat.sub_self]
        rfl
      · obtain ⟨go, yl⟩ := hJ2.item m2 e
        refine .inr ⟨go, fun H' => ∃ m', m' < m + 1 ∧ ∃ μ' M' acc vs, F.Ext H1 μ1 M1 H' μ' M' ∧ F.RM H' μ' M' ∧ H' D = some (.lst vs) ∧ Free μ' M' D ∧ RVs F.K H' μ' acc.reverse vs ∧ acc.length ≤ j + 1 ∧ j + 1 + m' = turns ∧
          Ok (compL elt g k it F.c (Ev.wipe ρ own) m' (j + 1) acc M') (fun ws M2 => Ok (new M2 (.lst ws)) (F.Gd H μ M Q) (F.Ge H μ M σ)) (F.Ge H μ M σ), fun H' h => h, fun V H3 y => ?_⟩
        obtain ⟨x3, m3, rp⟩ := yl V H3 y
        have A3 : F.blk.At (L2.wipe σ own) H3 μ2 M2 (Ev.wipe ρ own) := ⟨m3, ((A1.s.ext x2).ext x3).wipe own⟩
        refine ⟨μ2, M2, Ev.wipe ρ own, p, A3, rp, (Ok.bindN q).mono (fun ρ4 M4 q σ4 H4 μ4 x4 a4 w4 => ?_) fun _ _ _ q => q⟩
        refine ⟨by rw [w4 own hsub, wipe_wipe fun _ h => h], μ4, M4, ρ4, a4, (Ok.bindN q).mono (fun b M5 q H5 μ5 x5 m5 => ?_) fun _ _ _ q => q⟩
        have x35 : F.Ext H2 μ2 M2 H5 μ5 M5 := (x3.trans x4).trans x5
        have x5' : F.Ext H1 μ1 M1 H5 μ5 M5 := x2.trans x35
        have hD5 := x35.keep D _ hD fD
        have fD5 := x35.free hD fD
        cases b with
        | false => exact ⟨m, Nat.lt_succ_self _, μ5, M5, acc, vs, x5', m5, hD5, fD5, rv.ext x35, Nat.le_succ_of_le hl, by omega, q⟩
        | true =>
          refine ⟨μ5, M5, ρ4, a4.go x5 m5, (Ok.bindN q).mono (fun y M6 q V6 H6 μ6 x6 m6 r6 => ?_) fun _ _ _ q => q.elim⟩
          have hD6 := x6.keep D _ hD5 fD5
          have fD6 := x6.free hD5 fD5
          have lv := rv.length
          rw [List.length_reverse] at lv
          refine ⟨vs, hD6, ?_, m, Nat.lt_succ_self _, μ6, M6, y :: acc, vs ++ [V6], ?_, ?_, upd_same, ?_, ?_, ?_, by omega, q⟩
          · have : turns ≤ sizeLine := by decide
            omega
          · exact (x5'.trans x6).redo nD
          · exact RM.redo m6 hD6 ⟨fun _ _ z => by (cases z), fun _ z => by (cases z)⟩ fD6
          · exact fD6
          · rw [List.reverse_cons]
            have hc := tup_upd (o' := .lst (vs ++ [V6])) hD6 ⟨fun _ _ z => by (cases z), fun _ z => by (cases z)⟩
            exact (((rv.ext x35).ext x6).append (RVs.one r6)).cong hc
          · rw [List.length_cons]; omega
end
end Ev

set_option Elab.async false
set_option linter.all false
set_option maxRecDepth 100000
set_option maxHeartbeats 1000000
/-! Sf2: keys and entries of dicts; what is put; comprehensions; statements. -/
namespace Ev
open PySem PySem.Spec PyProof.Rows L2
theorem txt_inj {s t : List Nat} (h : txt s = txt t) : s = t := by
  have : s.toArray = t.toArray := congrArg Str.cps h
  simpa using congrArg Array.toList this
theorem yes_and {a b : Bool} : yes a b false = (a && b) := by cases a <;> rfl
theorem yes_or {a b : Bool} : yes a true b = (a || b) := by cases a <;> rfl
theorem leafEq_iff {a b : PV} {p q : Key} (h1 : keyOf a = some p) (h2 : keyOf b = some q) : leafEq a b = decide (p = q) := by
  cases a <;> simp only [keyOf, reduceCtorEq, Option.some.injEq] at h1 <;> cases b <;> simp only [keyOf, reduceCtorEq, Option.some.injEq] at h2 <;> subst h1 <;> subst h2
  · rename_i i j
    show intEq i j = _
    rw [intEq_iff]
    by_cases e : i = j
    · subst e; simp
    · simp [e]
  · exact (decide_eq_false (by simp)).symm
  · exact (decide_eq_false (by simp)).symm
  · rename_i i j
    show strEq i j = _
    rw [strEq_iff]
    by_cases e : i = j
    · subst e; simp
    · rw [decide_eq_false e, decide_eq_false]
      intro h
      exact e (txt_inj (Sum.inr.inj h))
theorem keyEq_leaf {a b : PV} {p q : Key} (h1 : keyOf a = some p) (h2 : keyOf b = some q) : keyEq a b = decide (p = q) := by
  rw [← leafEq_iff h1 h2]
  cases a <;> simp only [keyOf, reduceCtorEq] at h1 <;> rfl
theorem keysOf_cons {x : PV} {r : List PV} {q : List Key} (h : keysOf (x :: r) = some q) : ∃ k l, keyOf x = some k ∧ keysOf r = some l ∧ q = k :: l := by
  unfold keysOf at h
  split at h
  · rename_i k l h1 h2; cases h; exact ⟨k, l, h1, h2, rfl⟩
  · cases h
theorem keyEq_tup {f g : Bool} {a b : List PV} {p q : List Key} (h1 : keysOf a = some p) (h2 : keysOf b = some q) : keyEq (.tup f a) (.tup g b) = decide (p = q) := by
  show eqAllF leafEq a b = _
  induction a generalizing b p q with
  | nil =>
    cases h1
    cases b with
    | nil => cases h2; rfl
    | cons y r => obtain ⟨k, l, _, _, rfl⟩ := keysOf_cons h2; exact (decide_eq_false (by simp)).symm
  | cons x a ih =>
    obtain ⟨k, l, e1, e2, rfl⟩ := keysOf_cons h1
    cases b with
    | nil => cases h2; exact (decide_eq_false (by simp)).symm
    | cons y b =>
      obtain ⟨k', l', e1', e2', rfl⟩ := keysOf_cons h2
      show yes (leafEq x y) (eqAllF leafEq a b) false = _
      rw [yes_and, leafEq_iff e1 e1', ih e2 e2']
      by_cases ha : k = k'
      · subst ha; by_cases hb : l = l'
        · subst hb; simp
        · simp [hb]
      · simp [ha]
section
variable {K : PySem.W.Frag} {H : Hp} {μ : List Addr}
theorem RV.key {k : PV} {V : L2.V} {q : Key} (r : RV K H μ k V) (h : keyOf k = some q) : V = kV q ∧ KeyTx k := by
  cases r with
  | int i => cases h; exact ⟨rfl, trivial⟩
  | str s t => cases h; exact ⟨rfl, t⟩
  | _ => cases h
theorem RVs.keys {ks : List PV} {vs : List V} {q : List Key} (r : RVs K H μ ks vs) (h : keysOf ks = some q) : vs = q.map kV ∧ ∀ k ∈ ks, KeyTx k := by
  induction ks generalizing vs q with
  | nil => cases r; cases h; exact ⟨rfl, fun _ h => by simp at h⟩
  | cons x ks ih =>
    cases r with
    | cons r rr =>
      obtain ⟨k, l, e1, e2, rfl⟩ := keysOf_cons h
      obtain ⟨a, b⟩ := r.key e1
      obtain ⟨c, d⟩ := ih rr e2
      refine ⟨by rw [a, c]; rfl, fun k hk => ?_⟩
      rcases List.mem_cons.mp hk with e | hk
      · subst e; exact b
      · exact d k hk
theorem keyOk_leaf {k : PV} (h : keyOk false k = true) : ∃ q, keyOf k = some q := by
  have h : leaf k = true := h
  cases k <;> first | exact ⟨_, rfl⟩ | cases h
theorem leaf_key {k : PV} (h : leaf k = true) : ∃ q, keyOf k = some q := by
  cases k <;> first | exact ⟨_, rfl⟩ | cases h
theorem leafs_keys {ks : List PV} (h : allL leaf ks = true) : ∃ q, keysOf ks = some q := by
  induction ks with
  | nil => exact ⟨_, rfl⟩
  | cons x ks ih =>
    have h : yes (leaf x) (allL leaf ks) false = true := h
    rw [yes_and, Bool.and_eq_true] at h
    obtain ⟨k, e1⟩ := leaf_key h.1
    obtain ⟨l, e2⟩ := ih h.2
    exact ⟨k :: l, by unfold keysOf; rw [e1, e2]⟩
theorem keyOk_tup {k : PV} (h : keyOk true k = true) : ∃ ks q, k = .tup false ks ∧ keysOf ks = some q := by
  cases k with
  | tup f xs =>
    cases f with
    | true => cases h
    | false => obtain ⟨q, e⟩ := leafs_keys (show allL leaf xs = true from h); exact ⟨xs, q, rfl, e⟩
  | _ => cases h
theorem RD.find {kvs : List (PV × PV)} {m : List (Key × V)} {k : PV} {q : Key} (r : RD K H μ kvs m) (h : keyOf k = some q) :
    match Ev.find k kvs with | some v => ∃ w, valV m q = some w ∧ RV K H μ v w | none => valV m q = none := by
  induction r with
  | nil => exact rfl
  | @cons k' v q' w l m' h1 h2 h3 _ ih =>
    have e : Ev.find k ((k', v) :: l) = yes (keyEq k' k) (some v) (Ev.find k l) := rfl
    rw [e, keyEq_leaf h1 h]
    by_cases hq : q' = q
    · rw [decide_eq_true hq]
      exact ⟨w, valV_pos (p := (q', w)) hq, h3⟩
    · rw [decide_eq_false hq]
      show match Ev.find k l with | some v => ∃ w, valV _ q = some w ∧ _ | none => _
      rw [valV_neg (p := (q', w)) hq]
      exact ih
theorem RT.find {kvs : List (PV × PV)} {m : List (List Key × V)} {k : List PV} {q : List Key} (r : RT K H μ kvs m) (h : keysOf k = some q) :
    match Ev.find (.tup false k) kvs with | some v => ∃ w, valV m q = some w ∧ RV K H μ v w | none => valV m q = none := by
  induction r with
  | nil => exact rfl
  | @cons k' v q' w l m' h1 h2 h3 _ ih =>
    have e : Ev.find (.tup false k) ((.tup false k', v) :: l) = yes (keyEq (.tup false k') (.tup false k)) (some v) (Ev.find (.tup false k) l) := rfl
    rw [e, keyEq_tup h1 h]
    by_cases hq : q' = q
    · rw [decide_eq_true hq]
      exact ⟨w, valV_pos (p := (q', w)) hq, h3⟩
    · rw [decide_eq_false hq]
      show match Ev.find (.tup false k) l with | some v => ∃ w, valV _ q = some w ∧ _ | none => _
      rw [valV_neg (p := (q', w)) hq]
      exact ih
theorem RD.snoc {kvs : List (PV × PV)} {m : List (Key × V)} {k v : PV} {q : Key} {w : V} (r : RD K H μ kvs m) (h : keyOf k = some q) (t : KeyTx k) (rv : RV K H μ v w) : RD K H μ (kvs ++ [(k, v)]) (m ++ [(q, w)]) := by
  induction r with
  | nil => exact .cons h t rv .nil
  | cons h1 h2 h3 _ ih => exact .cons h1 h2 h3 ih
theorem RT.snoc {kvs : List (PV × PV)} {m : List (List Key × V)} {k : List PV} {v : PV} {q : List Key} {w : V} (r : RT K H μ kvs m) (h : keysOf k = some q) (t : ∀ x ∈ k, KeyTx x) (rv : RV K H μ v w) : RT K H μ (kvs ++ [(.tup false k, v)]) (m ++ [(q, w)]) := by
  induction r with
  | nil => exact .cons h t rv .nil
  | cons h1 h2 h3 _ ih => exact .cons h1 h2 h3 ih
theorem RD.any {kvs : List (PV × PV)} {m : List (Key × V)} {k : PV} {q : Key} (r : RD K H μ kvs m) (h : keyOf k = some q) : anyL (fun p => keyEq p.1 k) kvs = m.any fun kv => decide (kv.1 = q) := by
  induction r with
  | nil => rfl
  | @cons k' v q' w l m' h1 h2 h3 _ ih =>
    show yes (keyEq k' k) true (anyL (fun p => keyEq p.1 k) l) = _
    rw [yes_or, keyEq_leaf h1 h, ih, List.any_cons]
theorem RT.any {kvs : List (PV × PV)} {m : List (List Key × V)} {k : List PV} {q : List Key} (r : RT K H μ kvs m) (h : keysOf k = some q) : anyL (fun p => keyEq p.1 (.tup false k)) kvs = m.any fun kv => decide (kv.1 = q) := by
  induction r with
  | nil => rfl
  | @cons k' v q' w l m' h1 h2 h3 _ ih =>
    show yes (keyEq (.tup false k') (.tup false k)) true (anyL (fun p => keyEq p.1 (.tup false k)) l) = _
    rw [yes_or, keyEq_tup h1 h, ih, List.any_cons]
theorem RD.put {kvs : List (PV × PV)} {m : List (Key × V)} {k v : PV} {q : Key} {w : V} (r : RD K H μ kvs m) (h : keyOf k = some q) (t : KeyTx k) (rv : RV K H μ v w) : RD K H μ (putIn k v kvs) (putK m q w) := by
  unfold putIn putK
  rw [r.any h, app_eq, mapL_eq]
  cases (m.any fun kv => decide (kv.1 = q)) with
  | false => exact r.snoc h t rv
  | true =>
    show RD K H μ (kvs.map _) (m.map _)
    induction r with
    | nil => exact .nil
    | @cons k' v' q' w' l m' h1 h2 h3 _ ih =>
      rw [List.map_cons, List.map_cons]
      show RD K H μ (yes (keyEq k' k) (k', v) (k', v') :: _) _
      rw [keyEq_leaf h1 h]
      by_cases hq : q' = q
      · rw [decide_eq_true hq, if_pos hq]; exact .cons h1 h2 rv ih
      · rw [decide_eq_false hq, if_neg hq]; exact .cons h1 h2 h3 ih
theorem RT.put {kvs : List (PV × PV)} {m : List (List Key × V)} {k : List PV} {v : PV} {q : List Key} {w : V} (r : RT K H μ kvs m) (h : keysOf k = some q) (t : ∀ x ∈ k, KeyTx x) (rv : RV K H μ v w) : RT K H μ (putIn (.tup false k) v kvs) (putK m q w) := by
  unfold putIn putK
  rw [r.any h, app_eq, mapL_eq]
  cases (m.any fun kv => decide (kv.1 = q)) with
  | false => exact r.snoc h t rv
  | true =>
    show RT K H μ (kvs.map _) (m.map _)
    induction r with
    | nil => exact .nil
    | @cons k' v' q' w' l m' h1 h2 h3 _ ih =>
      rw [List.map_cons, List.map_cons]
      show RT K H μ (yes (keyEq (.tup false k') (.tup false k)) (.tup false k', v) (.tup false k', v') :: _) _
      rw [keyEq_tup h1 h]
      by_cases hq : q' = q
      · rw [decide_eq_true hq, if_pos hq]; exact .cons h1 h2 rv ih
      · rw [decide_eq_false hq, if_neg hq]; exact .cons h1 h2 h3 ih
theorem RD.length {kvs : List (PV × PV)} {m : List (Key × V)} (r : RD K H μ kvs m) : kvs.length = m.length := by
  induction r with
  | nil => rfl
  | cons _ _ _ _ ih => exact congrArg Nat.succ ih
theorem RT.length {kvs : List (PV × PV)} {m : List (List Key × V)} (r : RT K H μ kvs m) : kvs.length = m.length := by
  induction r with
  | nil => rfl
  | cons _ _ _ _ ih => exact congrArg Nat.succ ih
end
/-! ### what may be stored -/
theorem below_low {b : Nat} : ∀ {n : Nat} {v : PV}, below b n v = true → Low b v
  | 0, _, h => by cases h
  | n + 1, v, h => by
    cases v with
    | non => exact .non
    | bl k => exact .bl k
    | int i => exact .int i
    | str s => exact .str s
    | fn k => exact .fn k
    | ref i =>
      have h : Nat.ble (i + 1) b = true := h
      exact .ref (natBle.mp h)
    | tup f xs =>
      have h : allL (below b n) xs = true := h
      rw [allL_eq, List.all_eq_true] at h
      exact .tup (Lows.mem.mpr fun x hx => below_low (h x hx))
theorem mayIn_low {b i c : Nat} {v : PV} (h : mayIn b i v = true) (hc : c ≤ b) (hi : i < c) : Low c v := by
  unfold mayIn at h
  cases hb : Nat.ble b i with
  | true => rw [natBle] at hb; omega
  | false =>
    rw [hb] at h
    exact (below_low h).mono hi
theorem ixN_eq {n : Nat} {i : Int} {j : Nat} (h : Ev.ixN n i = some j) : L2.ixN n i = some j ∧ j < n := by
  cases i with
  | ofNat k =>
    obtain ⟨h1, h2⟩ := yes_some (show yes (Nat.ble (Nat.succ k) n) (some k) none = some j from h)
    rw [natBle] at h1
    subst h2
    refine ⟨?_, h1⟩
    unfold L2.ixN
    simp only [Int.ofNat_eq_natCast] at *
    grind
  | negSucc k =>
    obtain ⟨h1, h2⟩ := yes_some (show yes (Nat.ble (Nat.succ k) n) (some (Nat.sub n (Nat.succ k))) none = some j from h)
    rw [natBle] at h1
    subst h2
    have e : Nat.sub n (Nat.succ k) = n - (k + 1) := rfl
    refine ⟨?_, by rw [e]; omega⟩
    unfold L2.ixN
    rw [Int.negSucc_eq, e]
    grind
theorem atI_eq {α : Type} {xs : List α} {i : Int} {v : α} (h : Ev.atI xs i = some v) : L2.atI xs i = some v := by
  unfold L2.atI
  cases i with
  | ofNat k =>
    have h : nth xs k = some v := h
    rw [nth_eq] at h
    have hk := (List.getElem?_eq_some_iff.mp h).1
    have e : L2.ixN xs.length (Int.ofNat k) = some k := (ixN_eq (i := Int.ofNat k) (show yes (Nat.ble (Nat.succ k) xs.length) (some k) none = some k by rw [natBle.mpr hk]; rfl)).1
    rw [e]; exact h
  | negSucc k =>
    have h : yes (Nat.ble (Nat.succ k) (len xs)) (nth xs (Nat.sub (len xs) (Nat.succ k))) none = some v := h
    rw [len_eq, nth_eq] at h
    cases hb : Nat.ble (Nat.succ k) xs.length with
    | false => rw [hb] at h; cases h
    | true =>
      rw [hb] at h
      have e : L2.ixN xs.length (Int.negSucc k) = some (Nat.sub xs.length (Nat.succ k)) := (ixN_eq (i := Int.negSucc k) (show yes (Nat.ble (Nat.succ k) xs.length) (some (Nat.sub xs.length (Nat.succ k))) none = some (Nat.sub xs.length (Nat.succ k)) by rw [hb]; rfl)).1
      rw [e]; exact h
end Ev

set_option Elab.async false
set_option linter.all false
set_option maxRecDepth 100000
set_option maxHeartbeats 1000000
/-! Sg: stores; comprehensions; statements. -/
namespace Ev
open PySem PySem.Spec PyProof.Rows L2
/-- an object of one's own is written anew -/
theorem wr_step {K : PySem.W.Frag} {b : Nat} {H : Hp} {μ : List Addr} {M : Mem} {i : Nat} {a : Addr} {o o' : HO} {ob ob' : Obj} (m : RM K b H μ M) (hi : μ[i]? = some a) (hM : M[i]? = some ob) (w0 : Own ob) (h : H a = some o) (w : Wr o)
    (hc : ∀ c, c ≤ b → i < c → Closed c M → LowO c ob') (r : ∀ H' M', Ev.Ext b H μ M H' μ M' → H' a = some o' → RO K H' μ a ob') : Ev.Ext b H μ M (upd H a o') μ (M.set i ob') ∧ RM K b (upd H a o') μ (M.set i ob') := by
  have x := Ext.write (o' := o') (ob := ob') hi hM w0 h w hc
  exact ⟨x, RM.write (o := o) m x hi hM w0 (r _ _ x upd_same)⟩
theorem low_at {c i : Nat} {M : Mem} {o : Obj} (q : Closed c M) (h : i < c) (e : M[i]? = some o) : LowO c o := q i o h e
theorem lows_set {c : Nat} {xs : List PV} {v : PV} {j : Nat} (h : Lows c xs) (hv : Low c v) : Lows c (xs.set j v) := Lows.mem.mpr fun x hx => by
  rcases List.mem_or_eq_of_mem_set hx with h' | h'
  · exact Lows.mem.mp h x h'
  · subst h'; exact hv
theorem low_put {c : Nat} {kvs : List (PV × PV)} {k v : PV} (h : ∀ p ∈ kvs, Low c p.2) (hv : Low c v) : ∀ p ∈ putIn k v kvs, Low c p.2 := by
  intro p hp
  unfold putIn at hp
  rw [app_eq, mapL_eq] at hp
  cases hb : anyL (fun p => keyEq p.1 k) kvs with
  | true =>
    rw [hb] at hp
    obtain ⟨q, hq, rfl⟩ := List.mem_map.mp (show p ∈ kvs.map _ from hp)
    cases hk : keyEq q.1 k with
    | true => exact hv
    | false => exact h q hq
  | false =>
    rw [hb] at hp
    rcases List.mem_append.mp (show p ∈ kvs ++ [(k, v)] from hp) with hp | hp
    · exact h p hp
    · simp at hp; subst hp; exact hv
theorem len_putIn {k v : PV} {kvs : List (PV × PV)} : (putIn k v kvs).length ≤ kvs.length + 1 := by
  unfold putIn
  rw [app_eq, mapL_eq]
  cases anyL (fun p => keyEq p.1 k) kvs with
  | true => show (kvs.map _).length ≤ _; rw [List.length_map]; omega
  | false => show (kvs ++ _).length ≤ _; rw [List.length_append]; simp
theorem wr_lst {xs : List V} : Wr (.lst xs) := ⟨fun _ _ z => by (cases z), fun _ z => by (cases z)⟩
theorem wr_dK {xs : List (Key × V)} : Wr (.dK xs) := ⟨fun _ _ z => by (cases z), fun _ z => by (cases z)⟩
theorem wr_dT {xs : List (List Key × V)} : Wr (.dT xs) := ⟨fun _ _ z => by (cases z), fun _ z => by (cases z)⟩
theorem yes_some' {β : Type} {k : Bool} {x : Option β} {r : β} (h : yes k x none = some r) : k = true ∧ x = some r := by
  cases k
  · cases h
  · exact ⟨rfl, h⟩
theorem opt_some' {α β : Type} {o : Option α} {f : α → Option β} {r : β} (h : opt o none f = some r) : ∃ a, o = some a ∧ f a = some r := by
  cases o
  · cases h
  · exact ⟨_, rfl, h⟩
theorem RV.isInt {K : PySem.W.Frag} {H : Hp} {μ : List Addr} {β : Type} {v : PV} {V : L2.V} {f : Int → Option β} {r : β} (q : RV K H μ v V) (h : v.onI none f = some r) : ∃ i, v = .int i ∧ V = .int i ∧ f i = some r := by
  cases q <;> first | exact ⟨_, rfl, rfl, h⟩ | cases h
section
variable {X : Cx} {F : Fr} {pos : Pos} {H H' : Hp} {μ μ' : List Addr} {M M' : Mem}
theorem p_put (hu : X.A.units + 1 < cLine) : PSet X (RPut F) := by
  intro pins s σ H o i v ov iv u Q I ro ri rv h
  obtain ⟨μ, M, po, pi, pv, M', m, r1, r2, r3, e, q⟩ := h
  cases r1 with
  | @ref j a hj =>
    obtain ⟨ob, hM, rob⟩ := m.at hj
    have e : opt (nth M j) none (fun ob => opt ob.mine (opt ob.dict none fun d => yes (keyOk d.1 pi) (yes (Nat.ble (Nat.succ (len d.2)) line) (yes (mayIn F.c.b j pv) (some (put1 M j (mkD d.1 (putIn pi pv d.2)))) none) none) none)
      fun l => pi.onI none fun k => opt (Ev.ixN (len l) k) none fun n => yes (mayIn F.c.b j pv) (some (put1 M j (.lst (setL l pv n)))) none) = some M' := e
    rw [nth_eq, hM] at e
    cases rob with
    | box _ _ => first | (cases e; done) | (cases e1; done) | (cases h; done) | (cases hk; done) | (cases q; done) | (exact False.elim q) | (exact False.elim h)
    | @lst xs vs h1 h2 =>
      obtain ⟨k, rfl, rfl, e⟩ := r2.isInt (show (pi.onI none fun k => opt (Ev.ixN (len xs) k) none fun n => yes (mayIn F.c.b j pv) (some (put1 M j (.lst (setL xs pv n)))) none) = some M' from e)
      obtain ⟨n, e1, e⟩ := opt_some' e
      obtain ⟨e2, e⟩ := yes_some' e
      have e : put1 M j (.lst (setL xs pv n)) = M' := Option.some.inj e
      unfold put1 at e
      rw [setL_eq, setL_eq] at e
      rw [len_eq, h2.length] at e1
      subst e
      have st := wr_step (o' := .lst (vs.set n v)) (ob' := .lst (xs.set n pv)) m hj hM trivial h1 wr_lst (fun c hc hi hq => lows_set (low_at hq hi hM) (mayIn_low e2 hc hi)) fun H' M' x e => .lst e ((h2.ext x).set n (r3.ext x))
      exact set_list pins s σ H _ _ v ov iv u Q I ro ri rv ⟨a, vs, k, n, rfl, rfl, h1, (ixN_eq e1).1, q _ _ st.1 st.2⟩
    | ro h1 h2 => cases e
    | @dk kvs mm h1 h2 =>
      obtain ⟨e1, e⟩ := yes_some' (show yes (keyOk false pi) (yes (Nat.ble (Nat.succ (len kvs)) line) (yes (mayIn F.c.b j pv) (some (put1 M j (mkD false (putIn pi pv kvs)))) none) none) none = some M' from e)
      obtain ⟨e2, e⟩ := yes_some' e
      obtain ⟨e3, e⟩ := yes_some' e
      have e : setL M (.dk (putIn pi pv kvs)) j = M' := Option.some.inj e
      rw [setL_eq] at e
      rw [len_eq, natBle] at e2
      obtain ⟨qk, hqk⟩ := keyOk_leaf e1
      obtain ⟨rfl, tk⟩ := r2.key hqk
      subst e
      have st := wr_step (o' := .dK (putK mm qk v)) (ob' := .dk (putIn pi pv kvs)) m hj hM trivial h1 wr_dK (fun c hc hi hq => low_put (low_at (o := .dk kvs) hq hi hM) (mayIn_low e3 hc hi)) fun H' M' x e => .dk e ((h2.ext x).put hqk tk (r3.ext x))
      refine set_dict hu pins s σ H _ _ v ov iv u Q I ro ri rv ⟨a, _, rfl, .k h1 ?_, q _ _ st.1 st.2⟩
      rw [← h2.length]
      have : line = sizeLine := by decide
      omega
    | @dt kvs mm h1 h2 =>
      obtain ⟨e1, e⟩ := yes_some' (show yes (keyOk true pi) (yes (Nat.ble (Nat.succ (len kvs)) line) (yes (mayIn F.c.b j pv) (some (put1 M j (mkD true (putIn pi pv kvs)))) none) none) none = some M' from e)
      obtain ⟨e2, e⟩ := yes_some' e
      obtain ⟨e3, e⟩ := yes_some' e
      have e : setL M (.dt (putIn pi pv kvs)) j = M' := Option.some.inj e
      rw [setL_eq] at e
      rw [len_eq, natBle] at e2
      obtain ⟨ks, qk, rfl, hqk⟩ := keyOk_tup e1
      cases r2 with
      | @tup _ bk _ ws t1 t2 =>
      obtain ⟨rfl, tk⟩ := t2.keys hqk
      subst e
      have st := wr_step (o' := .dT (putK mm qk v)) (ob' := .dt (putIn (.tup false ks) pv kvs)) m hj hM trivial h1 wr_dT (fun c hc hi hq => low_put (low_at (o := .dt kvs) hq hi hM) (mayIn_low e3 hc hi)) fun H' M' x e => .dt e ((h2.ext x).put hqk tk (r3.ext x))
      refine set_dict hu pins s σ H _ _ v ov iv u Q I ro ri rv ⟨a, _, rfl, .t h1 t1 ?_, q _ _ st.1 st.2⟩
      rw [← h2.length]
      have : line = sizeLine := by decide
      omega
  | _ => cases e
/-- the reading of a dict comprehension -/
theorem toDc {ns own : List Nat} {kk vv : Se} {g : Sg} {i : Si} {k : Sb} (hsub : ∀ j ∈ ns, j ∈ own) {σ : L2.St} {H : Hp} {Q : VK} (q : tE F (sDcomp false kk vv g i k own) σ H Q) :
    tDc (tI F i) (tG F.blk ns g) (tB F.blk k) (tE F.blk kk) (tE F.blk vv) own σ H Q := by
  obtain ⟨μ, M, ρ, A, q⟩ := q
  refine ⟨μ, M, ρ, A, (Ok.bind.mp q).mono (fun it M1 q H1 μ1 J x1 m1 hJ => ?_) fun _ _ _ q => q⟩
  intro D nD
  have q := Ok.bind.mp q
  have A1 : F.At σ H1 μ1 M1 ρ := A.go x1 m1
  refine ⟨fun j m H' => ∃ μ' M' acc vs, F.Ext H1 μ1 M1 H' μ' M' ∧ F.RM H' μ' M' ∧ H' D = some (.dK vs) ∧ Free μ' M' D ∧ RD F.K H' μ' acc vs ∧ acc.length ≤ j ∧ j + m = turns ∧
    Ok (dcompL false kk vv g k it F.c (Ev.wipe ρ own) m j acc M') (fun ws M2 => Ok (new M2 (mkD false ws)) (F.Gd H μ M Q) (F.Ge H μ M σ)) (F.Ge H μ M σ), ⟨turns, ?_⟩, ?_⟩
  · have kp := keepNew (o := .dK []) nD
    exact ⟨μ1, M1, [], [], Ext.same kp, m1.same kp, upd_same, free_new m1 nD, .nil, Nat.le_refl _, Nat.zero_add _, q⟩
  · rintro j m H2 ⟨μ2, M2, acc, vs, x2, m2, hD, fD, rv, hl, hm, q⟩
    cases m with
    | zero => exact q.elim
    | succ m =>
      have hJ2 : ItS F.K H2 μ2 it J := hJ.ext x2
      rcases Nx.ok (show Ok ((itAt M2 it j).el .no (.ok acc M2) fun v => (g v F.c (Ev.wipe ρ own) M2).bindN fun ρ1 M1 => (k F.c ρ1 M1).bindN fun b M2 => yes b ((kk F.c ρ1 M2).bindN fun y M3 => (vv F.c ρ1 M3).bindN fun z M4 => yes (keyOk false y) (dcompL false kk vv g k it F.c (Ev.wipe ρ own) m (Nat.succ j) (putIn y z acc) M4) .no) (dcompL false kk vv g k it F.c (Ev.wipe ρ own) m (Nat.succ j) acc M2)) _ _ from q) with ⟨e, q⟩ | ⟨p, e, q⟩
      · refine .inl ⟨hJ2.stop m2 e, ?_⟩
        have q : F.Gd H μ M Q (.ref (len M2)) (app M2 [.dk acc]) := q
        rw [len_eq, app_eq] at q
        have ro : RO F.K H2 μ2 D (.dk acc) := .dk hD rv
        refine q _ _ _ (x1.trans (x2.adopt m2 m1 nD)) (m2.adopt fD ro) (.ref ?_)
        rw [← m2.len, List.getElem?_append_right (Nat.le_refl _), Nat.sub_self]
        rfl
      · obtain ⟨go, yl⟩ := hJ2.item m2 e
        refine .inr ⟨go, fun H' => ∃ m', m' < m + 1 ∧ ∃ μ' M' acc vs, F.Ext H1 μ1 M1 H' μ' M' ∧ F.RM H' μ' M' ∧ H' D = some (.dK vs) ∧ Free μ' M' D ∧ RD F.K H' μ' acc vs ∧ acc.length ≤ j + 1 ∧ j + 1 + m' = turns ∧
          Ok (dcompL false kk vv g k it F.c (Ev.wipe ρ own) m' (j + 1) acc M') (fun ws M2 => Ok (new M2 (mkD false ws)) (F.Gd H μ M Q) (F.Ge H μ M σ)) (F.Ge H μ M σ), fun H' h => h, fun V H3 y => ?_⟩
        obtain ⟨x3, m3, rp⟩ := yl V H3 y
        have A3 : F.blk.At (L2.wipe σ own) H3 μ2 M2 (Ev.wipe ρ own) := ⟨m3, ((A1.s.ext x2).ext x3).wipe own⟩
        refine ⟨μ2, M2, Ev.wipe ρ own, p, A3, rp, (Ok.bindN q).mono (fun ρ4 M4 q σ4 H4 μ4 x4 a4 w4 => ?_) fun _ _ _ q => q⟩
        refine ⟨by rw [w4 own hsub, wipe_wipe fun _ h => h], μ4, M4, ρ4, a4, (Ok.bindN q).mono (fun b M5 q H5 μ5 x5 m5 => ?_) fun _ _ _ q => q⟩
        have x35 : F.Ext H2 μ2 M2 H5 μ5 M5 := (x3.trans x4).trans x5
        have x5' : F.Ext H1 μ1 M1 H5 μ5 M5 := x2.trans x35
        have hD5 := x35.keep D _ hD fD
        have fD5 := x35.free hD fD
        cases b with
        | false => exact ⟨m, Nat.lt_succ_self _, μ5, M5, acc, vs, x5', m5, hD5, fD5, rv.ext x35, Nat.le_succ_of_le hl, by omega, q⟩
        | true =>
          refine ⟨μ5, M5, ρ4, a4.go x5 m5, (Ok.bindN q).mono (fun y M6 q V6 H6 μ6 x6 m6 r6 => ?_) fun _ _ _ q => q.elim⟩
          refine ⟨μ6, M6, ρ4, (a4.go x5 m5).go x6 m6, (Ok.bindN q).mono (fun z M7 q V7 H7 μ7 x7 m7 r7 => ?_) fun _ _ _ q => q.elim⟩
          obtain ⟨ky, q⟩ := yes_ok q
          obtain ⟨qk, hqk⟩ := keyOk_leaf ky
          obtain ⟨rfl, tk⟩ := r6.key hqk
          have hD7 := x7.keep D _ (x6.keep D _ hD5 fD5) (x6.free hD5 fD5)
          have fD7 := x7.free (x6.keep D _ hD5 fD5) (x6.free hD5 fD5)
          have lv := rv.length
          refine ⟨vs, qk, rfl, hD7, ?_, m, Nat.lt_succ_self _, μ7, M7, putIn y z acc, putK vs qk V7, ?_, ?_, upd_same, fD7, ?_, ?_, by omega, q⟩
          · have : turns ≤ sizeLine := by decide
            omega
          · exact ((x5'.trans x6).trans x7).redo nD
          · exact RM.redo m7 hD7 wr_dK fD7
          · have hc := tup_upd (o' := .dK (putK vs qk V7)) hD7 wr_dK
            exact ((((rv.ext x35).ext x6).ext x7).put hqk tk r7).cong hc
          · have := len_putIn (k := y) (v := z) (kvs := acc)
            omega
end
end Ev

set_option Elab.async false
set_option linter.all false
set_option maxRecDepth 100000
set_option maxHeartbeats 1000000
/-! Sh: comprehensions as values; statements. -/
namespace Ev
open PySem PySem.Spec PyProof.Rows L2
/-- what a statement's end is good for -/
def OkS (r : SR) (N : Rho → Mem → Prop) (R : PV → Mem → Prop) (E : Nat → List PV → Mem → Prop) : Prop := match r with
  | .nx ρ M => N ρ M
  | .rt v M => R v M
  | .exc k vs M => E k vs M
  | .no => False
  | .ch n f => ∀ i, i < n → OkS (f i) N R E
section
variable {N N' : Rho → Mem → Prop} {R R' : PV → Mem → Prop} {E E' : Nat → List PV → Mem → Prop}
theorem OkS.mono {r : SR} (h : OkS r N R E) (h1 : ∀ ρ M, N ρ M → N' ρ M) (h2 : ∀ v M, R v M → R' v M) (h3 : ∀ k vs M, E k vs M → E' k vs M) : OkS r N' R' E' := by
  induction r with
  | nx => exact h1 _ _ h
  | rt => exact h2 _ _ h
  | exc => exact h3 _ _ _ h
  | no => exact h
  | ch n g ih => exact fun i hi => ih i (h i hi)
theorem OkS.thn {r : SR} {f : Rho → Mem → SR} (h : OkS (r.thn f) N R E) : OkS r (fun ρ M => OkS (f ρ M) N R E) R E := by
  induction r with
  | ch n g ih => exact fun i hi => ih i (h i hi)
  | _ => exact h
theorem OkS.st {α : Type} {r : Res α} {f : α → Mem → SR} (h : OkS (r.st f) N R E) : Ok r (fun a M => OkS (f a M) N R E) E := by
  induction r with
  | ch n g ih => exact fun i hi => ih i (h i hi)
  | _ => exact h
theorem OkS.stN {α : Type} {r : Res α} {f : α → Mem → SR} (h : OkS (r.stN f) N R E) : Ok r (fun a M => OkS (f a M) N R E) fun _ _ _ => False := by
  induction r with
  | ch n g ih => exact fun i hi => ih i (h i hi)
  | _ => exact h
theorem byT_okS {M : Mem} {v : PV} {x y : SR} (h : OkS (byT M v .no x y) N R E) : ∃ k, tru M v = some k ∧ (if k = true then OkS x N R E else OkS y N R E) := by
  unfold byT at h
  cases e : tru M v with
  | none => rw [e] at h; exact h.elim
  | some k => rw [e] at h; refine ⟨k, rfl, ?_⟩; cases k <;> exact h
theorem Nx.okS {x : Nx} {s : SR} {f : PV → SR} (h : OkS (x.el .no s f) N R E) : (x = .stop ∧ OkS s N R E) ∨ ∃ v, x = .item v ∧ OkS (f v) N R E := by
  cases x with
  | no => exact h.elim
  | stop => exact .inl ⟨rfl, h⟩
  | item v => exact .inr ⟨v, rfl, h⟩
theorem opt_okS {α : Type} {o : Option α} {f : α → SR} (h : OkS (opt o .no f) N R E) : ∃ a, o = some a ∧ OkS (f a) N R E := by
  cases o
  · exact h.elim
  · exact ⟨_, rfl, h⟩
end
section
variable (F : Fr) (H : Hp) (μ : List Addr) (M : Mem)
def Fr.Sn (P : L2.St → Hp → Prop) (ρ' : Rho) (M' : Mem) : Prop := ∀ σ' H' μ', F.Ext H μ M H' μ' M' → F.At σ' H' μ' M' ρ' → P σ' H'
/-- an exception leaves: the names' values are not told -/
def Fr.Se (k : Nat) (vs : List PV) (M' : Mem) : Prop := ∀ cls d σ' H' μ', F.Ext H μ M H' μ' M' → F.RM H' μ' M' → F.RX H' μ' k vs cls d → F.W cls d σ' H'
end
def tS (F : Fr) (b : Ss) : TS := fun D σ H => ∃ μ M ρ, F.At σ H μ M ρ ∧ OkS (b F.c ρ M) (F.Sn H μ M D.nx) (F.Gd H μ M D.rt) (F.Se H μ M)
section
variable {X : Cx} {F : Fr} {pos : Pos} {H H' : Hp} {μ μ' : List Addr} {M M' : Mem}
theorem Fr.Se.ge {k : Nat} {vs : List PV} {N : Mem} {σ : L2.St} (h : F.Se H μ M k vs N) : F.Ge H μ M σ k vs N := fun cls d H' μ' => h cls d σ H' μ'
theorem OkS.step {r : SR} {P : L2.St → Hp → Prop} {R : VK} (h : OkS r (F.Sn H μ M P) (F.Gd H μ M R) (F.Se H μ M)) (x : F.Ext H μ M H' μ' M') : OkS r (F.Sn H' μ' M' P) (F.Gd H' μ' M' R) (F.Se H' μ' M') :=
  h.mono (fun _ _ q σ2 H2 μ2 y => q σ2 H2 μ2 (x.trans y)) (fun _ _ q => q.step x) fun _ _ _ q cls d σ2 H2 μ2 y => q cls d σ2 H2 μ2 (x.trans y)
/-! ### comprehensions -/
theorem e_comp {elt tg iter : Expr} {ifs : List Expr} {scope : Scope} {own : List (Str × Nat)} {ns : List Nat} {el : Se} {g : Sg} {i : Si} {k : Sb} (hc : X.calm = true) (hN : X.N.Nodup) (hi : PI X tg iter (tI F i)) (ok : BlkOk X.N X.env.scope scope own)
    (hsub : ∀ j ∈ ns, j ∈ own.map (·.2))
    (hg : ∀ (s : Shared) (H : Hp) (C : Addr) (cl : List (Str × Addr)) (fp : List Addr), PG (X.blk s H scope (compEnvC scope cl C X.env) fp) tg (tG F.blk ns g)) (ht : ∀ (s : Shared) (H : Hp) (C : Addr) (cl : List (Str × Addr)) (fp : List Addr), PTs (X.blk s H scope (compEnvC scope cl C X.env) fp) ifs (tB F.blk k))
    (he : ∀ (s : Shared) (H : Hp) (C : Addr) (cl : List (Str × Addr)) (fp : List Addr), PE (X.blk s H scope (compEnvC scope cl C X.env) fp) elt (tE F.blk el)) (hs : ∀ x, foldedSetIterable iter X.env x = pure x) :
    PE X (.ListComp elt [⟨tg, iter, ifs, 0⟩] scope pos) (tE F (sComp el g i k (own.map (·.2)))) := (pe_lc hc hN hi ok hg ht he hs).imp fun _ _ _ h => toLc hsub h
theorem e_dcomp {kx vx tg iter : Expr} {ifs : List Expr} {scope : Scope} {own : List (Str × Nat)} {ns : List Nat} {ek ev : Se} {g : Sg} {i : Si} {k : Sb} (hc : X.calm = true) (hN : X.N.Nodup) (hi : PI X tg iter (tI F i)) (ok : BlkOk X.N X.env.scope scope own)
    (hsub : ∀ j ∈ ns, j ∈ own.map (·.2))
    (hg : ∀ (s : Shared) (H : Hp) (C : Addr) (cl : List (Str × Addr)) (fp : List Addr), PG (X.blk s H scope (compEnvC scope cl C X.env) fp) tg (tG F.blk ns g)) (ht : ∀ (s : Shared) (H : Hp) (C : Addr) (cl : List (Str × Addr)) (fp : List Addr), PTs (X.blk s H scope (compEnvC scope cl C X.env) fp) ifs (tB F.blk k))
    (hk : ∀ (s : Shared) (H : Hp) (C : Addr) (cl : List (Str × Addr)) (fp : List Addr), PE (X.blk s H scope (compEnvC scope cl C X.env) fp) kx (tE F.blk ek)) (he : ∀ (s : Shared) (H : Hp) (C : Addr) (cl : List (Str × Addr)) (fp : List Addr), PE (X.blk s H scope (compEnvC scope cl C X.env) fp) vx (tE F.blk ev))
    (hs : ∀ x, foldedSetIterable iter X.env x = pure x) :
    PE X (.DictComp kx vx [⟨tg, iter, ifs, 0⟩] scope pos) (tE F (sDcomp false ek ev g i k (own.map (·.2)))) := (pe_dc hc hN hi ok hg ht hk he hs).imp fun _ _ _ h => toDc hsub h
/-! ### statements -/
theorem toAsg {e : Se} {g : Sg} {ns : List Nat} {D : Ends} {σ : L2.St} (h : tS F (Ev.tSet g e) D σ H) : tE F e σ H fun x H1 => tG F ns g x σ H1 D.nx := by
  obtain ⟨μ, M, ρ, A, q⟩ := h
  refine ⟨μ, M, ρ, A, (OkS.st q).mono (fun v M1 q V H1 μ1 x1 m1 r1 => ?_) fun _ _ _ q => q.ge⟩
  exact ⟨μ1, M1, ρ, v, A.go x1 m1, r1, (OkS.stN q).mono (fun ρ2 M2 q σ2 H2 μ2 x2 a2 _ => q σ2 H2 μ2 (x1.trans x2) a2) fun _ _ _ q => q⟩
theorem s_set {tg e : Expr} {x : Se} {g : Sg} {ns : List Nat} (he : PE X e (tE F x)) (hg : PG X tg (tG F ns g)) (hs : swapsWithSole [tg] e pos.line X.env = pure false) (hw : swappedStores [tg] e X.env = pure none)
    (h1 : (assignEach [tg] X.env).map (·.2) = [assign tg X.env]) : PS X (.Assign [tg] e pos) (tS F (Ev.tSet g x)) := (ps_asg he hg hs hw h1).imp fun _ _ _ h => toAsg h
theorem s_set1 {i : Nat} {x : Str} {e : Expr} {v : Se} {pos' : Pos} (hN : X.N.Nodup) (hi : X.N[i]? = some x) (hx : Loc X.env.scope x) (he : PE X e (tE F v)) (hs : swapsWith e (some (.Name x pos')) pos.line X.env = pure false) (hf : X.fn x = true ∨ X.env.scope.names.lookup x = some .local) :
    PS X (.Assign [.Name x pos'] e pos) (tS F (Ev.tSet (Ev.gName i) v)) := by
  refine (ps_set hN hi hx he hs hf).imp fun D σ H h => ?_
  obtain ⟨μ, M, ρ, A, q⟩ := h
  refine ⟨μ, M, ρ, A, (OkS.st q).mono (fun v M1 q V H1 μ1 x1 m1 r1 => ?_) fun _ _ _ q => q.ge⟩
  have q : F.Sn H μ M D.nx (setL ρ (some v) i) M1 := q
  rw [setL_eq] at q
  exact q _ H1 μ1 x1 ⟨m1, (A.s.ext x1).set r1⟩
theorem s_setLc {i : Nat} {y : Str} {py : Pos} {elt tg iter : Expr} {ifs : List Expr} {scope : Scope} {own : List (Str × Nat)} {spos : Pos} {ns : List Nat} {el : Se} {g : Sg} {it : Si} {k : Sb} (hc : X.calm = true) (hN : X.N.Nodup) (hy : X.N[i]? = some y) (hyl : X.env.scope.names.lookup y = some .local)
    (hsw : swapsWith (.ListComp elt [⟨tg, iter, ifs, 0⟩] scope pos) (some (.Name y py)) spos.line X.env = pure true) (hi : PI X tg iter (tI F it)) (ok : BlkOk X.N X.env.scope scope own) (hsub : ∀ j ∈ ns, j ∈ own.map (·.2))
    (hg : ∀ (s : Shared) (H : Hp) (C : Addr) (cl : List (Str × Addr)) (fp : List Addr), PG (X.blk s H scope (compEnvC scope cl C X.env) fp) tg (tG F.blk ns g)) (ht : ∀ (s : Shared) (H : Hp) (C : Addr) (cl : List (Str × Addr)) (fp : List Addr), PTs (X.blk s H scope (compEnvC scope cl C X.env) fp) ifs (tB F.blk k))
    (he : ∀ (s : Shared) (H : Hp) (C : Addr) (cl : List (Str × Addr)) (fp : List Addr), PE (X.blk s H scope (compEnvC scope cl C X.env) fp) elt (tE F.blk el)) (hs : ∀ x, foldedSetIterable iter X.env x = pure x) :
    PS X (.Assign [.Name y py] (.ListComp elt [⟨tg, iter, ifs, 0⟩] scope pos) spos) (tS F (Ev.tSet (Ev.gName i) (sComp el g it k (own.map (·.2))))) := by
  refine (ps_setLc hc hN hy hyl hsw hi ok hg ht he hs).imp fun D σ H h => ?_
  refine toLc hsub ?_
  obtain ⟨μ, M, ρ, A, q⟩ := h
  refine ⟨μ, M, ρ, A, (OkS.st q).mono (fun v M1 q V H1 μ1 x1 m1 r1 => ?_) fun _ _ _ q => q.ge⟩
  have q : F.Sn H μ M D.nx (setL ρ (some v) i) M1 := q
  rw [setL_eq] at q
  exact q _ H1 μ1 x1 ⟨m1, (A.s.ext x1).set r1⟩
theorem s_par {f : Bool} {i j : Nat} {x y : Str} {a b : Expr} {l : Sl} {px py pt : Pos} {kt k2 pt2} (hc : X.calm = true) (hN : X.N.Nodup) (hi : X.N[i]? = some x) (hj : X.N[j]? = some y) (hij : i ≠ j)
    (hx : X.env.scope.names.lookup x = some .local) (hy : X.env.scope.names.lookup y = some .local) (ha : PA X [a, b] (tL F l))
    (hw : swappedStores [.Tuple [.Name x px, .Name y py] kt pt] (.Tuple [a, b] k2 pt2) X.env = pure (some [x, y]))
    (hs : swapsWithSole [.Tuple [.Name x px, .Name y py] kt pt] (.Tuple [a, b] k2 pt2) pos.line X.env = pure false) :
    PS X (.Assign [.Tuple [.Name x px, .Name y py] kt pt] (.Tuple [a, b] k2 pt2) pos) (tS F (Ev.tSet (Ev.gTup 2 (glCons (Ev.gName i) (glCons (Ev.gName j) glNil))) (sTup f l))) := by
  refine (ps_par hc hN hi hj hij hx hy ha hw hs).imp fun D σ H h => ?_
  obtain ⟨μ, M, ρ, A, q⟩ := h
  refine ⟨μ, M, ρ, A, (Ok.bind.mp (OkS.st q)).mono (fun vs M1 q V H1 μ1 x1 m1 r1 => ?_) fun _ _ _ q => q.ge⟩
  have q := OkS.stN q
  obtain ⟨e, q⟩ := yes_ok (show Ok (yes (Nat.beq (len vs) 2) _ .no) _ _ from q)
  rw [Nat.beq_eq, len_eq] at e
  match vs, V, r1, e with
  | [v, w], [V1, V2], .cons r (.cons r' .nil), _ =>
    refine ⟨V1, V2, rfl, ?_⟩
    have q : F.Sn H μ M D.nx (setL (setL ρ (some v) i) (some w) j) M1 := q
    rw [setL_eq, setL_eq] at q
    exact q _ H1 μ1 x1 ⟨m1, ((A.s.ext x1).set r).set r'⟩
theorem s_par3 {f : Bool} {i j l' : Nat} {x y z : Str} {a b c : Expr} {l : Sl} {px py pz pt : Pos} {kt k2 pt2} (hc : X.calm = true) (hN : X.N.Nodup) (hi : X.N[i]? = some x) (hj : X.N[j]? = some y) (hl : X.N[l']? = some z) (hij : i ≠ j) (hil : i ≠ l') (hjl : j ≠ l')
    (hx : X.env.scope.names.lookup x = some .local) (hy : X.env.scope.names.lookup y = some .local) (hz : X.env.scope.names.lookup z = some .local) (ha : PA X [a, b, c] (tL F l))
    (hw : swappedStores [.Tuple [.Name x px, .Name y py, .Name z pz] kt pt] (.Tuple [a, b, c] k2 pt2) X.env = pure (some [x, y, z]))
    (hs : swapsWithSole [.Tuple [.Name x px, .Name y py, .Name z pz] kt pt] (.Tuple [a, b, c] k2 pt2) pos.line X.env = pure false) :
    PS X (.Assign [.Tuple [.Name x px, .Name y py, .Name z pz] kt pt] (.Tuple [a, b, c] k2 pt2) pos) (tS F (Ev.tSet (Ev.gTup 3 (glCons (Ev.gName i) (glCons (Ev.gName j) (glCons (Ev.gName l') glNil)))) (sTup f l))) := by
  refine (ps_par3 hc hN hi hj hl hij hil hjl hx hy hz ha hw hs).imp fun D σ H h => ?_
  obtain ⟨μ, M, ρ, A, q⟩ := h
  refine ⟨μ, M, ρ, A, (Ok.bind.mp (OkS.st q)).mono (fun vs M1 q V H1 μ1 x1 m1 r1 => ?_) fun _ _ _ q => q.ge⟩
  have q := OkS.stN q
  obtain ⟨e, q⟩ := yes_ok (show Ok (yes (Nat.beq (len vs) 3) _ .no) _ _ from q)
  rw [Nat.beq_eq, len_eq] at e
  match vs, V, r1, e with
  | [v, w, u], [V1, V2, V3], .cons r (.cons r' (.cons r'' .nil)), _ =>
    refine ⟨V1, V2, V3, rfl, ?_⟩
    have q : F.Sn H μ M D.nx (setL (setL (setL ρ (some v) i) (some w) j) (some u) l') M1 := q
    rw [setL_eq, setL_eq, setL_eq] at q
    exact q _ H1 μ1 x1 ⟨m1, (((A.s.ext x1).set r).set r').set r''⟩
/-- o[i] = e, as a statement -/
theorem s_put {o i e : Expr} {x y z : Se} {spos : Pos} (hu : X.A.units + 1 < cLine) (he : PE X e (tE F z)) (ho : PE X o (tE F x)) (hi : PE X i (tE F y))
    (ha : ∀ v, assign (.Subscript o i spos) X.env v = (do
      let ov ← holding [v] (eval o X.env)
      let iv ← holding [v, ov] (eval i X.env)
      standAt spos
      holding [v, ov, iv] (setItem ov iv v)
      release [v, ov, iv] [])) (hs : swapsWithSole [.Subscript o i spos] e pos.line X.env = pure false) (hw : swappedStores [.Subscript o i spos] e X.env = pure none) (h1 : (assignEach [.Subscript o i spos] X.env).map (·.2) = [assign (.Subscript o i spos) X.env]) :
    PS X (.Assign [.Subscript o i spos] e pos) (tS F (tPut x y z)) := by
  refine (ps_asg he (g_sub (p_put hu) ho hi ha) hs hw h1).imp fun D σ H h => ?_
  obtain ⟨μ, M, ρ, A, q⟩ := h
  refine ⟨μ, M, ρ, A, (OkS.st q).mono (fun v M1 q V H1 μ1 x1 m1 r1 => ?_) fun _ _ _ q => q.ge⟩
  refine ⟨μ1, M1, ρ, v, A.go x1 m1, r1, Ok.bind.mpr ((OkS.stN q).mono (fun ov M2 q => Ok.bind.mpr ((OkS.stN q).mono (fun iv M3 q => ?_) fun _ _ _ q => q)) fun _ _ _ q => q)⟩
  obtain ⟨M4, e4, q⟩ := opt_okS q
  rw [e4]
  exact fun σ2 H2 μ2 x2 a2 _ => q σ2 H2 μ2 (x1.trans x2) a2
theorem s_aug {i : Nat} {x : Str} {e : Expr} {v : Se} {op : Operator} {o : Ev.Op} {pos' : Pos} (hop : (op = .Add ∧ o = .add) ∨ (op = .Sub ∧ o = .sub)) (hN : X.N.Nodup) (hi : X.N[i]? = some x) (hx : Loc X.env.scope x) (he : PE X e (tE F v)) (hf : X.fn x = true ∨ X.env.scope.names.lookup x = some .local) :
    PS X (.AugAssign (.Name x pos') op e pos) (tS F (Ev.tAug i o v)) := by
  have go : ∀ {f : Int → Int → Int} {D : Ends} {σ : L2.St} {H : Hp}, (∀ p q, augV o (.int p) (.int q) = some (.int (f p q))) → tS F (Ev.tAug i o v) D σ H → L2.tAug i (tE F v) (ipI f) D σ H := by
    intro f D σ H hf h
    obtain ⟨μ, M, ρ, A, q⟩ := h
    obtain ⟨ov, e1, q⟩ := opt_okS (show OkS (opt (nth ρ i) .no fun o' => opt o' .no fun x => (v F.c ρ M).st fun y M1 => opt (augV o x y) .no fun z => .nx (setL ρ (some z) i) M1) _ _ _ from q)
    obtain ⟨pv, rfl, q⟩ := opt_okS q
    rw [nth_eq] at e1
    obtain ⟨V, hV, rV⟩ := A.s.get i pv e1
    refine ⟨V, hV, μ, M, ρ, A, (OkS.st q).mono (fun w M1 q W H1 μ1 x1 m1 r1 => ?_) fun _ _ _ q => q.ge⟩
    obtain ⟨z, ez, q⟩ := opt_okS q
    unfold augV at ez
    obtain ⟨p, rfl, rfl, ez⟩ := rV.isInt ez
    obtain ⟨p', rfl, rfl, ez⟩ := r1.isInt ez
    have ez' : augV o (.int p) (.int p') = some z := ez
    rw [hf] at ez'
    cases ez'
    have q : F.Sn H μ M D.nx (setL ρ (some (.int (f p p'))) i) M1 := q
    rw [setL_eq] at q
    exact ⟨p, p', rfl, rfl, q _ H1 μ1 x1 ⟨m1, (A.s.ext x1).set (.int _)⟩⟩
  rcases hop with ⟨rfl, rfl⟩ | ⟨rfl, rfl⟩
  · exact (ps_aug hN hi hx he ip_add hf).imp fun D σ H h => go (fun _ _ => rfl) h
  · exact (ps_aug hN hi hx he ip_sub hf).imp fun D σ H h => go (fun _ _ => rfl) h
theorem s_ret {e : Expr} {x : Se} (he : PE X e (tE F x)) : PS X (.Return (some e) pos) (tS F (Ev.tRet x)) := by
  refine (ps_ret he).imp fun D σ H h => ?_
  obtain ⟨μ, M, ρ, A, q⟩ := h
  exact ⟨μ, M, ρ, A, (OkS.st q).mono (fun v M1 q => q) fun _ _ _ q => q.ge⟩
theorem s_retN : PS X (.Return none pos) (tS F Ev.tRetN) := by
  refine ps_retN.imp fun D σ H h => ?_
  obtain ⟨μ, M, ρ, A, q⟩ := h
  exact q .non H μ .refl A.m .non
theorem s_pass : PS X (.Pass pos) (tS F Ev.tNil) := by
  refine ps_pass.imp fun D σ H h => ?_
  obtain ⟨μ, M, ρ, A, q⟩ := h
  exact q σ H μ .refl A
theorem s_expr {e : Expr} {x : Se} (he : PE X e (tE F x)) (hs : swapsWith e none pos.line X.env = pure false) : PS X (.Expr e pos) (tS F (tExpr x)) := by
  refine (ps_expr he hs).imp fun D σ H h => ?_
  obtain ⟨μ, M, ρ, A, q⟩ := h
  exact ⟨μ, M, ρ, A, (OkS.st q).mono (fun v M1 q V H1 μ1 x1 m1 r1 => q σ H1 μ1 x1 (A.go x1 m1)) fun _ _ _ q => q.ge⟩
theorem s_if {c : Expr} {a b : List Stmt} {t : Se} {x y : Ss} (hc : PT X c (tX F t)) (ha : PSs X a (tS F x)) (hb : PSs X b (tS F y)) : PS X (.If c a b pos) (tS F (Ev.tIf t x y)) := by
  refine (ps_if hc ha hb).imp fun D σ H h => ?_
  obtain ⟨μ, M, ρ, A, q⟩ := h
  refine ⟨μ, M, ρ, A, (OkS.st q).mono (fun v M1 q H1 μ1 x1 m1 => ?_) fun _ _ _ q => q.ge⟩
  obtain ⟨k, e, q⟩ := byT_okS q
  refine ⟨k, e, ?_⟩
  cases k with
  | true => exact ⟨μ1, M1, ρ, A.go x1 m1, OkS.step q x1⟩
  | false => exact ⟨μ1, M1, ρ, A.go x1 m1, OkS.step q x1⟩
theorem s_never {st : Stmt} : PS X st (tS F Ev.tNo) := ps_never.imp fun D σ H h => by
  obtain ⟨μ, M, ρ, A, q⟩ := h
  exact q.elim
theorem ss_nil : PSs X [] (tS F Ev.tNil) := by
  refine pss_nil.imp fun D σ H h => ?_
  obtain ⟨μ, M, ρ, A, q⟩ := h
  exact q σ H μ .refl A
theorem ss_cons {st : Stmt} {rest : List Stmt} {x y : Ss} (h1 : PS X st (tS F x)) (h2 : PSs X rest (tS F y)) : PSs X (st :: rest) (tS F (Ev.tSeq x y)) := by
  refine (pss_cons h1 h2).imp fun D σ H h => ?_
  obtain ⟨μ, M, ρ, A, q⟩ := h
  exact ⟨μ, M, ρ, A, (OkS.thn q).mono (fun ρ1 M1 q σ1 H1 μ1 x1 a1 => ⟨μ1, M1, ρ1, a1, OkS.step q x1⟩) (fun _ _ q => q) fun _ _ _ q => q⟩
theorem s_for {tg iter : Expr} {body : List Stmt} {g : Sg} {ns : List Nat} {i : Si} {b : Ss} (hp : PassesOwn (model X.prog X.w) X.A X.env X.xe) (hc : X.calm = true) (hi : PI X tg iter (tI F i)) (hg : PG X tg (tG F ns g)) (hb : PSs X body (tS F b)) (hs : ∀ x, foldedSetIterable iter X.env x = pure x) :
    PS X (.For tg iter body [] pos) (tS F (Ev.tFor g i b)) := by
  refine (ps_for hp hc hi hg hb hs).imp fun D σ H h => ?_
  obtain ⟨μ, M, ρ, A, q⟩ := h
  refine ⟨μ, M, ρ, A, (OkS.st q).mono (fun it M1 q H1 μ1 J x1 m1 hJ => ?_) fun _ _ _ q => q.ge⟩
  refine ⟨fun j n σ' H' => ∃ μ' M' ρ', F.At σ' H' μ' M' ρ' ∧ F.Ext H1 μ1 M1 H' μ' M' ∧ OkS (forL b g it F.c n j ρ' M') (F.Sn H μ M D.nx) (F.Gd H μ M D.rt) (F.Se H μ M), ⟨turns, μ1, M1, ρ, A.go x1 m1, .refl, q⟩, ?_⟩
  rintro j n σ2 H2 ⟨μ2, M2, ρ2, A2, x2, q⟩
  cases n with
  | zero => exact q.elim
  | succ n =>
    have hJ2 : ItS F.K H2 μ2 it J := hJ.ext x2
    rcases Nx.okS (show OkS ((itAt M2 it j).el .no (.nx ρ2 M2) fun v => (g v F.c ρ2 M2).stN fun ρ1 M1 => (b F.c ρ1 M1).thn fun ρ2 M2 => forL b g it F.c n (Nat.succ j) ρ2 M2) _ _ _ from q) with ⟨e, q⟩ | ⟨p, e, q⟩
    · exact .inl ⟨hJ2.stop A2.m e, q σ2 H2 μ2 (x1.trans x2) A2⟩
    · obtain ⟨go, yl⟩ := hJ2.item A2.m e
      refine .inr ⟨go, fun σ' H' => ∃ μ' M' ρ', F.At σ' H' μ' M' ρ' ∧ F.Ext H1 μ1 M1 H' μ' M' ∧ OkS (forL b g it F.c n (j + 1) ρ' M') (F.Sn H μ M D.nx) (F.Gd H μ M D.rt) (F.Se H μ M), fun σ' H' h => ⟨n, Nat.lt_succ_self _, h⟩, fun V H3 y => ?_⟩
      obtain ⟨x3, m3, rp⟩ := yl V H3 y
      refine ⟨μ2, M2, ρ2, p, A2.go x3 m3, rp, (OkS.stN q).mono (fun ρ4 M4 q σ4 H4 μ4 x4 a4 _ => ?_) fun _ _ _ q => q⟩
      refine ⟨μ4, M4, ρ4, a4, (OkS.thn q).mono (fun ρ5 M5 q σ5 H5 μ5 x5 a5 => ?_) (fun v M5 q => ?_) fun k vs M5 q => ?_⟩
      · exact ⟨μ5, M5, ρ5, a5, ((x2.trans x3).trans x4).trans x5, q⟩
      · exact q.step (((x1.trans x2).trans x3).trans x4)
      · exact fun cls d σ5 H5 μ5 x5 => q cls d σ5 H5 μ5 ((((x1.trans x2).trans x3).trans x4).trans x5)
theorem s_while {c : Expr} {body : List Stmt} {t : Se} {b : Ss} (hp : PassesOwn (model X.prog X.w) X.A X.env X.xe) (hc : PT X c (tX F t)) (hb : PSs X body (tS F b)) : PS X (.While c body [] pos) (tS F (tWhl t b)) := by
  refine (ps_while hp hc hb).imp fun D σ H h => ?_
  obtain ⟨μ, M, ρ, A, q⟩ := h
  refine ⟨fun n σ' H' => ∃ μ' M' ρ', F.At σ' H' μ' M' ρ' ∧ F.Ext H μ M H' μ' M' ∧ OkS (whlL t b F.c n ρ' M') (F.Sn H μ M D.nx) (F.Gd H μ M D.rt) (F.Se H μ M), ⟨turns, μ, M, ρ, A, .refl, q⟩, ?_⟩
  rintro n σ2 H2 ⟨μ2, M2, ρ2, A2, x2, q⟩
  cases n with
  | zero => exact q.elim
  | succ n =>
    have q := OkS.st (show OkS ((t F.c ρ2 M2).st fun v M1 => byT M1 v .no ((b F.c ρ2 M1).thn fun ρ2 M2 => whlL t b F.c n ρ2 M2) (.nx ρ2 M1)) _ _ _ from q)
    refine ⟨μ2, M2, ρ2, A2, q.mono (fun v M3 q H3 μ3 x3 m3 => ?_) fun k vs M3 q cls d H3 μ3 x3 => q cls d σ2 H3 μ3 (x2.trans x3)⟩
    obtain ⟨k, e, q⟩ := byT_okS q
    refine ⟨k, e, ?_⟩
    cases k with
    | false => exact q σ2 H3 μ3 (x2.trans x3) (A2.go x3 m3)
    | true =>
      rw [if_pos rfl] at q ⊢
      refine ⟨fun σ' H' => ∃ μ' M' ρ', F.At σ' H' μ' M' ρ' ∧ F.Ext H μ M H' μ' M' ∧ OkS (whlL t b F.c n ρ' M') (F.Sn H μ M D.nx) (F.Gd H μ M D.rt) (F.Se H μ M), fun σ' H' h => ⟨n, Nat.lt_succ_self _, h⟩, ?_⟩
      refine ⟨μ3, M3, ρ2, A2.go x3 m3, (OkS.thn q).mono (fun ρ5 M5 q σ5 H5 μ5 x5 a5 => ?_) (fun v M5 q => q.step (x2.trans x3)) fun k vs M5 q cls d σ5 H5 μ5 x5 => q cls d σ5 H5 μ5 ((x2.trans x3).trans x5)⟩
      exact ⟨μ5, M5, ρ5, a5, (x2.trans x3).trans x5, q⟩
end
end Ev

set_option Elab.async false
set_option linter.all false
set_option maxRecDepth 100000
set_option maxHeartbeats 1000000
/-! Sj1: values as data; comparisons. -/
namespace Ev
open PySem PySem.Spec PyProof.Rows L2
/-- a value as data, to the depth n -/
noncomputable def pd (M : Mem) : Nat → PV → PyData
  | 0, _ => .none
  | n + 1, v => match v with
    | .non => .none | .bl b => .bool b | .int i => .int i | .str s => .str (txt s)
    | .tup _ xs => .tuple (xs.map (pd M n))
    | .ref i => match lstAt M i with | some xs => .list (xs.map (pd M n)) | none => .none
    | .fn _ => .none
theorem data_tup {M : Mem} {n : Nat} {f : Bool} {xs : List PV} (h : data M (n + 1) (.tup f xs) = true) : ∀ x ∈ xs, data M n x = true := by
  have h : allL (data M n) xs = true := h
  rw [allL_eq, List.all_eq_true] at h
  exact h
theorem data_ref {M : Mem} {n i : Nat} (h : data M (n + 1) (.ref i) = true) : ∃ xs, lstAt M i = some xs ∧ ∀ x ∈ xs, data M n x = true := by
  have h : opt (lstAt M i) false (fun xs => allL (data M n) xs) = true := h
  cases e : lstAt M i with
  | none => rw [e] at h; cases h
  | some xs =>
    rw [e] at h
    have h : allL (data M n) xs = true := h
    rw [allL_eq, List.all_eq_true] at h
    exact ⟨xs, rfl, h⟩
section
variable {K : PySem.W.Frag} {b : Nat} {H : Hp} {μ : List Addr} {M : Mem}
theorem pd_all {n : Nat} (ih : ∀ {v : PV} {V : L2.V}, data M n v = true → RV K H μ v V → Dp K H V (pd M n v)) : ∀ {xs : List PV} {vs : List V}, (∀ x ∈ xs, data M n x = true) → RVs K H μ xs vs → DpAll K H vs (xs.map (pd M n))
  | _, _, _, .nil => .nil
  | _, _, h, .cons r rr => .cons (ih (h _ List.mem_cons_self) r) (pd_all ih (fun x hx => h x (List.mem_cons_of_mem _ hx)) rr)
theorem pd_dp (m : RM K b H μ M) : ∀ {n : Nat} {v : PV} {V : L2.V}, data M n v = true → RV K H μ v V → Dp K H V (pd M n v)
  | 0, _, _, h, _ => by cases h
  | n + 1, v, V, h, r => by
    cases r with
    | non => exact .non
    | bl k => exact .bl k
    | int i => exact .int i
    | str s q => exact .str _
    | @tup f a xs vs s l => exact .tup s.sq (pd_all (fun h r => pd_dp m h r) (data_tup h) l)
    | @ref i a e =>
      obtain ⟨xs, h1, h2⟩ := data_ref h
      obtain ⟨vs, h3, h4⟩ := lstAt_sq m e h1
      have e2 : pd M (n + 1) (.ref i) = .list (xs.map (pd M n)) := by
        show (match lstAt M i with | some xs => PyData.list (xs.map (pd M n)) | none => .none) = _
        rw [h1]
      rw [e2]
      exact .lst h3 (pd_all (fun h r => pd_dp m h r) h2 h4)
theorem lay_all {f : PV → PyData} : ∀ {xs : List PV}, (∀ x ∈ xs, (f x).canLay0 = true) → PyData.canLayAll0 (xs.map f) = true
  | [], _ => rfl
  | x :: xs, h => by
    show ((f x).canLay0 && PyData.canLayAll0 (xs.map f)) = true
    rw [h x List.mem_cons_self, lay_all fun y hy => h y (List.mem_cons_of_mem _ hy)]; rfl
theorem depth_all {f : PV → PyData} {n : Nat} : ∀ {xs : List PV}, (∀ x ∈ xs, (f x).depth ≤ n) → PyData.depthAll (xs.map f) ≤ n
  | [], _ => Nat.zero_le _
  | x :: xs, h => by
    show max ((f x).depth) (PyData.depthAll (xs.map f)) ≤ n
    exact Nat.max_le.mpr ⟨h x List.mem_cons_self, depth_all fun y hy => h y (List.mem_cons_of_mem _ hy)⟩
theorem pd_lay (m : RM K b H μ M) : ∀ {n : Nat} {v : PV} {V : L2.V}, RV K H μ v V → (pd M n v).canLay0 = true
  | 0, _, _, _ => rfl
  | n + 1, v, V, r => by
    have al : ∀ {xs : List PV} {vs : List L2.V}, RVs K H μ xs vs → ∀ x ∈ xs, (pd M n x).canLay0 = true := fun {xs vs} l x hx => by
      obtain ⟨i, hi⟩ := List.getElem?_of_mem hx
      obtain ⟨v, _, rv⟩ := l.get hi
      exact pd_lay m rv
    cases r with
    | non => rfl
    | bl k => rfl
    | int i => rfl
    | str s q =>
      show (txt s).cps.all (· < 0x110000) = true
      rw [← Array.all_toList]
      exact List.all_eq_true.mpr fun c hc => decide_eq_true (q.1 c hc)
    | tup s l => exact lay_all (al l)
    | @ref i a e =>
      show (match lstAt M i with | some xs => PyData.list (xs.map (pd M n)) | none => .none).canLay0 = true
      cases h1 : lstAt M i with
      | none => rfl
      | some xs =>
        obtain ⟨vs, h3, h4⟩ := lstAt_sq m e h1
        exact lay_all (al h4)
theorem pd_depth : ∀ {n : Nat} {v : PV}, (pd M n v).depth ≤ n
  | 0, _ => Nat.le_refl _
  | n + 1, v => by
    cases v with
    | non => exact Nat.zero_le _
    | bl k => exact Nat.zero_le _
    | int i => exact Nat.zero_le _
    | str s => exact Nat.zero_le _
    | fn k => exact Nat.zero_le _
    | tup xs => exact Nat.succ_le_succ (depth_all fun x _ => pd_depth)
    | ref i =>
      show (match lstAt M i with | some xs => PyData.list (xs.map (pd M n)) | none => .none).depth ≤ _
      cases lstAt M i with
      | none => exact Nat.zero_le _
      | some xs => exact Nat.succ_le_succ (depth_all fun x _ => pd_depth)
theorem pd_shaped (m : RM K b H μ M) {v : PV} {V : L2.V} (r : RV K H μ v V) : SeqAt.shaped (pd M deep v) = true := by
  unfold SeqAt.shaped
  rw [pd_lay m r, Bool.true_and]
  exact decide_eq_true (Nat.le_trans pd_depth (by decide))
/-- == by data -/
theorem eqAll_pd {f : PV → PV → Bool} {g : PV → PyData} : ∀ {xs ys : List PV}, (∀ x ∈ xs, ∀ y ∈ ys, f x y = PyData.eqv (g x) (g y)) → eqAllF f xs ys = PyData.eqvAll (xs.map g) (ys.map g)
  | [], [], _ => rfl
  | [], _ :: _, _ => rfl
  | _ :: _, [], _ => rfl
  | x :: xs, y :: ys, h => by
    show yes (f x y) (eqAllF f xs ys) false = (PyData.eqv (g x) (g y) && PyData.eqvAll (xs.map g) (ys.map g))
    rw [yes_and, h x List.mem_cons_self y List.mem_cons_self, eqAll_pd fun a ha b hb => h a (List.mem_cons_of_mem _ ha) b (List.mem_cons_of_mem _ hb)]
theorem b2i_eq (k : Bool) : Ev.b2i k = if k then 1 else 0 := by cases k <;> rfl
theorem eqF_pd : ∀ {n : Nat} {v w : PV}, data M n v = true → data M n w = true → eqF M n v w = PyData.eqv (pd M n v) (pd M n w)
  | 0, _, _, h, _ => by cases h
  | n + 1, v, w, h, h' => by
    have rr : ∀ {i : Nat}, data M (n + 1) (.ref i) = true → ∃ xs, lstAt M i = some xs ∧ (∀ x ∈ xs, data M n x = true) ∧ pd M (n + 1) (.ref i) = .list (xs.map (pd M n)) := fun {i} h => by
      obtain ⟨xs, h1, h2⟩ := data_ref h
      refine ⟨xs, h1, h2, ?_⟩
      show (match lstAt M i with | some xs => PyData.list (xs.map (pd M n)) | none => .none) = _
      rw [h1]
    cases v with
    | fn k => cases h
    | non => cases w with
      | ref j => obtain ⟨ys, _, _, e⟩ := rr h'; rw [e]; rfl
      | fn k => cases h'
      | _ => rfl
    | bl p => cases w with
      | ref j => obtain ⟨ys, _, _, e⟩ := rr h'; rw [e]; rfl
      | fn k => cases h'
      | bl q => show yes p q (yes q false true) = (p == q); cases p <;> cases q <;> rfl
      | int j => show intEq (Ev.b2i p) j = ((if p then 1 else 0) == j); rw [intEq_iff, b2i_eq]
      | _ => rfl
    | int i => cases w with
      | ref j => obtain ⟨ys, _, _, e⟩ := rr h'; rw [e]; rfl
      | fn k => cases h'
      | bl q => show intEq i (Ev.b2i q) = (i == (if q then 1 else 0)); rw [intEq_iff, b2i_eq]
      | int j => show intEq i j = (i == j); rw [intEq_iff]
      | _ => rfl
    | str s => cases w with
      | ref j => obtain ⟨ys, _, _, e⟩ := rr h'; rw [e]; rfl
      | fn k => cases h'
      | str t =>
        show strEq s t = (txt s == txt t)
        rw [strEq_iff, Bool.eq_iff_iff, beq_iff_eq, decide_eq_true_iff]
        exact ⟨fun e => by rw [e], txt_inj⟩
      | _ => rfl
    | tup f xs => cases w with
      | ref j => obtain ⟨ys, _, _, e⟩ := rr h'; rw [e]; rfl
      | fn k => cases h'
      | tup g ys => exact eqAll_pd fun x hx y hy => eqF_pd (data_tup h x hx) (data_tup h' y hy)
      | _ => rfl
    | ref i =>
      obtain ⟨xs, h1, h2, e⟩ := rr h
      rw [e]
      cases w with
      | ref j =>
        obtain ⟨ys, h3, h4, e'⟩ := rr h'
        rw [e']
        show opt (lstAt M i) false (fun xs => opt (lstAt M j) false fun ys => eqAllF (eqF M n) xs ys) = PyData.eqvAll _ _
        rw [h1, h3]
        exact eqAll_pd fun x hx y hy => eqF_pd (h2 x hx) (h4 y hy)
      | fn k => cases h'
      | _ => rfl
theorem eqV_ok {v w : PV} {r : Bool} (h : eqV M v w = some r) : data M deep v = true ∧ data M deep w = true ∧ r = PyData.eqv (pd M deep v) (pd M deep w) := by
  obtain ⟨h1, h⟩ := yes_some' h
  obtain ⟨h2, h⟩ := yes_some' h
  exact ⟨h1, h2, by rw [← eqF_pd h1 h2]; exact (Option.some.inj h).symm⟩
end
theorem opt_ok {α β : Type} {o : Option α} {f : α → Res β} {G : β → Mem → Prop} {E : Nat → List PV → Mem → Prop} (h : Ok (opt o .no f) G E) : ∃ a, o = some a ∧ Ok (f a) G E := by
  cases o
  · exact h.elim
  · exact ⟨_, rfl, h⟩
section
variable {X : Cx} {F : Fr}
theorem o_eq (hK : F.K = X.K) (hu : X.A.units + 64 < cLine) : OpR X (compareOp .Eq) (R2 F cmEq) := by
  intro pins s σ H x y v u Q I rx ry h
  obtain ⟨μ, M, a, c, m, r1, r2, q⟩ := h
  obtain ⟨r, e, q⟩ := opt_ok q
  obtain ⟨h1, h2, h3⟩ := eqV_ok e
  refine op_eqD hu pins s σ H x y v u Q I rx ry ⟨_, _, hK ▸ pd_dp m h1 r1, hK ▸ pd_dp m h2 r2, pd_shaped m r1, pd_shaped m r2, ?_⟩
  rw [← h3]
  exact q _ H μ .refl m (.bl r)
theorem o_ne (hK : F.K = X.K) (hu : X.A.units + 64 < cLine) : OpR X (compareOp .NotEq) (R2 F cmNe) := by
  intro pins s σ H x y v u Q I rx ry h
  obtain ⟨μ, M, a, c, m, r1, r2, q⟩ := h
  obtain ⟨r, e, q⟩ := opt_ok q
  obtain ⟨h1, h2, h3⟩ := eqV_ok e
  refine op_neD hu pins s σ H x y v u Q I rx ry ⟨_, _, hK ▸ pd_dp m h1 r1, hK ▸ pd_dp m h2 r2, pd_shaped m r1, pd_shaped m r2, ?_⟩
  rw [← h3, ← no?_eq]
  exact q _ H μ .refl m (.bl _)
theorem nonB {K : PySem.W.Frag} {H : Hp} {μ : List Addr} {a : PV} {V : L2.V} (r : RV K H μ a V) : isNonB a = decide (V = .non) := by
  cases r <;> first | rfl | exact (decide_eq_false (by simp)).symm
theorem nonB_true {K : PySem.W.Frag} {H : Hp} {μ : List Addr} {a : PV} {V : L2.V} (r : RV K H μ a V) (h : isNonB a = true) : V = .non := by
  rw [nonB r, decide_eq_true_iff] at h; exact h
theorem o_is : OpR X (compareOp .Is) (R2 F cmIs) := by
  intro pins s σ H x y v u Q I rx ry h
  obtain ⟨μ, M, a, c, m, r1, r2, q⟩ := h
  obtain ⟨e, q⟩ := yes_ok q
  refine op_isN pins s σ H x y v u Q I rx ry ⟨nonB_true r2 e, ?_⟩
  rw [← nonB r1]
  exact q _ H μ .refl m (.bl _)
theorem o_isNot : OpR X (compareOp .IsNot) (R2 F cmIsNot) := by
  intro pins s σ H x y v u Q I rx ry h
  obtain ⟨μ, M, a, c, m, r1, r2, q⟩ := h
  obtain ⟨e, q⟩ := yes_ok q
  refine op_notN pins s σ H x y v u Q I rx ry ⟨nonB_true r2 e, ?_⟩
  rw [← nonB r1, ← no?_eq]
  exact q _ H μ .refl m (.bl _)
theorem o_int {op : CmpOp} {f : Int → Int → Bool} (h : OpR X (compareOp op) (rI0 fun i j => .bl (f i j))) : OpR X (compareOp op) (R2 F (cmInt f)) := by
  intro pins s σ H x y v u Q I rx ry q
  obtain ⟨μ, M, a, c, m, r1, r2, q⟩ := q
  obtain ⟨i, rfl, rfl, q⟩ := onI_ok r1 q
  obtain ⟨j, rfl, rfl, q⟩ := onI_ok r2 q
  exact h pins s σ H _ _ v u Q I rx ry ⟨i, j, rfl, rfl, q _ H μ .refl m (.bl _)⟩
theorem o_lt : OpR X (compareOp .Lt) (R2 F (cmInt intLt)) := o_int (by have := op_lt (X := X); simpa only [intLt_iff] using this)
theorem o_le : OpR X (compareOp .LtE) (R2 F (cmInt intLe)) := o_int (by have := op_le (X := X); simpa only [intLe_iff] using this)
theorem o_gt : OpR X (compareOp .Gt) (R2 F (cmInt fun i j => intLt j i)) := o_int (by have := op_gt (X := X); simpa only [intLt_iff] using this)
theorem o_ge : OpR X (compareOp .GtE) (R2 F (cmInt fun i j => intLe j i)) := o_int (by have := op_ge (X := X); simpa only [intLe_iff] using this)
/-- x in l -/
theorem anyEq_ok {M : Mem} {x : PV} : ∀ {l : List PV} {r : Bool}, anyEq M x l = some r → (∀ y ∈ l, data M deep y = true) ∧ (l ≠ [] → data M deep x = true) ∧ r = l.any fun y => PyData.eqv (pd M deep y) (pd M deep x)
  | [], r, h => by
    have h : some false = some r := h
    cases h
    exact ⟨fun _ h => by simp at h, fun h => absurd rfl h, rfl⟩
  | y :: l, r, h => by
    obtain ⟨k, e, h⟩ := opt_some' (show opt (eqV M y x) none (fun k => yes k (yes (opt (anyEq M x l) false fun _ => true) (some true) none) (anyEq M x l)) = some r from h)
    obtain ⟨h1, h2, h3⟩ := eqV_ok e
    have al : ∀ {r'}, anyEq M x l = some r' → (∀ z ∈ y :: l, data M deep z = true) := fun {r'} q z hz => by
      rcases List.mem_cons.mp hz with rfl | hz
      · exact h1
      · exact (anyEq_ok q).1 z hz
    rw [List.any_cons, ← h3]
    cases k with
    | true =>
      obtain ⟨h4, h5⟩ := yes_some' (show yes (opt (anyEq M x l) false fun _ => true) (some true) none = some r from h)
      cases h5
      cases e2 : anyEq M x l with
      | none => rw [e2] at h4; cases h4
      | some r' => exact ⟨al e2, fun _ => h2, rfl⟩
    | false =>
      have h : anyEq M x l = some r := h
      exact ⟨al h, fun _ => h2, by rw [(anyEq_ok h).2.2]; rfl⟩
theorem any_map_pd {M : Mem} {x : PV} {l : List PV} : (l.any fun y => PyData.eqv (pd M deep y) (pd M deep x)) = (l.map (pd M deep)).any fun z => PyData.eqv z (pd M deep x) := by
  rw [List.any_map]; rfl
theorem room_pd {A : Around} {M : Mem} {x : PV} {ds : List PyData} (hu : A.units + 65 < cLine) : A.units + 1 + min (PyData.depthAll ds) (pd M deep x).depth < cLine := by
  have h : (pd M deep x).depth ≤ deep := pd_depth
  have e : deep = 60 := rfl
  have := Nat.min_le_right (PyData.depthAll ds) (pd M deep x).depth
  omega
theorem isIn_run (hK : F.K = X.K) (hu : X.A.units + 65 < cLine) {pins : List (Addr × PySem.Obj)} {s : Shared} {σ : L2.St} {H : Hp} {μ : List Addr} {M : Mem} {a c : PV} {x y : V} {v u : Value} {k : Bool} {Q : Value → Shared → Prop} (I : Inv X pins σ H s) (rx : RelV x v) (ry : RelV y u) (m : F.RM H μ M) (r1 : RV F.K H μ a x) (r2 : RV F.K H μ c y)
    (e : isIn M a c = some k) :
    ((∀ s', Inv X pins σ H s' → Q (.bool k) s') → wpAny (model X.prog X.w) X.A (compareOp .In v u) Q X.xe s) ∧ ((∀ s', Inv X pins σ H s' → Q (.bool (!k)) s') → wpAny (model X.prog X.w) X.A (compareOp .NotIn v u) Q X.xe s) := by
  -- an empty container needs no data of x; the rules want it: x is data or the container is empty
  have seq : ∀ {l : List PV} {vs : List V} {d : PyData} {as : List Addr}, anyEq M a l = some k → RVs F.K H μ l vs → (d = .list (l.map (pd M deep)) ∨ d = .tuple (l.map (pd M deep))) → Reads s.heap u d as → data M deep a = true →
      ((∀ s', Inv X pins σ H s' → Q (.bool k) s') → wpAny (model X.prog X.w) X.A (compareOp .In v u) Q X.xe s) ∧ ((∀ s', Inv X pins σ H s' → Q (.bool (!k)) s') → wpAny (model X.prog X.w) X.A (compareOp .NotIn v u) Q X.xe s) := by
    intro l vs d as e rl hd rd da
    obtain ⟨_, _, e3⟩ := anyEq_ok e
    rw [any_map_pd] at e3
    obtain ⟨bs, rb⟩ := Dp.reads I _ x v (hK ▸ pd_dp m da r1) rx
    have lay : PyData.canLayAll0 (l.map (pd M deep)) = true := lay_all fun z hz => by
      obtain ⟨i, hi⟩ := List.getElem?_of_mem hz
      obtain ⟨w, _, rw'⟩ := rl.get hi
      exact pd_lay m rw'
    rcases hd with rfl | rfl
    · exact ⟨fun h => SeqAt.in_list_reads rd rb lay (pd_lay m r1) (room_pd hu) (by rw [← e3]; exact h s I), fun h => SeqAt.notIn_list_reads rd rb lay (pd_lay m r1) (room_pd hu) (by rw [← e3]; exact h s I)⟩
    · exact ⟨fun h => SeqAt.in_tuple_reads rd rb lay (pd_lay m r1) (room_pd hu) (by rw [← e3]; exact h s I), fun h => SeqAt.notIn_tuple_reads rd rb lay (pd_lay m r1) (room_pd hu) (by rw [← e3]; exact h s I)⟩
  cases r2 with
  | @tup f p xs vs st l =>
    obtain ⟨da, e⟩ := yes_some' (show yes (data M deep a) (anyEq M a xs) none = some k from e)
    have dd : DpAll F.K H vs (xs.map (pd M deep)) := pd_all (fun h r => pd_dp m h r) (anyEq_ok e).1 l
    obtain ⟨as, rd⟩ := Dp.reads I (.tuple (xs.map (pd M deep))) _ u (.tup (hK ▸ st.sq) (hK ▸ dd)) ry
    exact seq e l (.inr rfl) rd da
  | @ref i p hi =>
    obtain ⟨ob, hM, ro⟩ := m.at hi
    have e : opt (nth M i) none (fun o => opt o.items (opt o.dict none fun d => yes (keyOk d.1 a) (some (some? (find a d.2))) none) fun xs => yes (data M deep a) (anyEq M a xs) none) = some k := e
    rw [nth_eq, hM] at e
    have lst : ∀ {xs : List PV} {vs : List V}, SqL F.K H p vs → RVs F.K H μ xs vs → yes (data M deep a) (anyEq M a xs) none = some k →
        ((∀ s', Inv X pins σ H s' → Q (.bool k) s') → wpAny (model X.prog X.w) X.A (compareOp .In v u) Q X.xe s) ∧ ((∀ s', Inv X pins σ H s' → Q (.bool (!k)) s') → wpAny (model X.prog X.w) X.A (compareOp .NotIn v u) Q X.xe s) := by
      intro xs vs h1 h2 e
      obtain ⟨da, e⟩ := yes_some' e
      have dd : DpAll F.K H vs (xs.map (pd M deep)) := pd_all (fun h r => pd_dp m h r) (anyEq_ok e).1 h2
      obtain ⟨as, rd⟩ := Dp.reads I (.list (xs.map (pd M deep))) _ u (.lst (hK ▸ h1) (hK ▸ dd)) ry
      exact seq e h2 (.inl rfl) rd da
    cases ro with
    | box _ _ => first | (cases e; done) | (cases e1; done) | (cases h; done) | (cases hk; done) | (cases q; done) | (exact False.elim q) | (exact False.elim h)
    | lst h1 h2 => exact lst (.of h1) h2 e
    | ro h1 h2 => exact lst h1.sq h2 e
    | @dk kvs mm h1 h2 =>
      obtain ⟨kk, e⟩ := yes_some' (show yes (keyOk false a) (some (some? (find a kvs))) none = some k from e)
      cases e
      obtain ⟨q, hq⟩ := keyOk_leaf kk
      obtain ⟨rfl, _⟩ := r1.key hq
      have g : DGet H p (kV q) (valV mm q) := .k h1
      have fe : some? (find a kvs) = (valV mm q).isSome := by
        have := h2.find hq
        cases hf : find a kvs with
        | none => rw [hf] at this; rw [this]; rfl
        | some w => rw [hf] at this; obtain ⟨w', e', _⟩ := this; rw [e']; rfl
      rw [fe]
      cases ry
      exact ⟨fun h => d_in (by omega) I g rx h, fun h => d_notIn (by omega) I g rx h⟩
    | @dt kvs mm h1 h2 =>
      obtain ⟨kk, e⟩ := yes_some' (show yes (keyOk true a) (some (some? (find a kvs))) none = some k from e)
      cases e
      obtain ⟨ks, q, rfl, hq⟩ := keyOk_tup kk
      cases r1 with
      | @tup _ bk _ ws t1 t2 =>
      obtain ⟨rfl, _⟩ := t2.keys hq
      have g : DGet H p (.ref bk) (valV mm q) := .t h1 t1
      have fe : some? (find (.tup false ks) kvs) = (valV mm q).isSome := by
        have := h2.find hq
        cases hf : find (.tup false ks) kvs with
        | none => rw [hf] at this; rw [this]; rfl
        | some w => rw [hf] at this; obtain ⟨w', e', _⟩ := this; rw [e']; rfl
      rw [fe]
      cases ry
      exact ⟨fun h => d_in (by omega) I g rx h, fun h => d_notIn (by omega) I g rx h⟩
  | _ => cases e
theorem o_in (hK : F.K = X.K) (hu : X.A.units + 65 < cLine) : OpR X (compareOp .In) (R2 F cmIn) := by
  intro pins s σ H x y v u Q I rx ry h
  obtain ⟨μ, M, a, c, m, r1, r2, q⟩ := h
  obtain ⟨k, e, q⟩ := opt_ok q
  exact (isIn_run hK hu I rx ry m r1 r2 e).1 fun s' I' => ⟨.bl k, H, I', rfl, q _ H μ .refl m (.bl _)⟩
theorem o_notIn (hK : F.K = X.K) (hu : X.A.units + 65 < cLine) : OpR X (compareOp .NotIn) (R2 F cmNotIn) := by
  intro pins s σ H x y v u Q I rx ry h
  obtain ⟨μ, M, a, c, m, r1, r2, q⟩ := h
  obtain ⟨k, e, q⟩ := opt_ok q
  refine (isIn_run hK hu I rx ry m r1 r2 e).2 fun s' I' => ⟨.bl (!k), H, I', rfl, ?_⟩
  rw [← no?_eq]
  exact q _ H μ .refl m (.bl _)
end
end Ev

set_option Elab.async false
set_option linter.all false
set_option maxRecDepth 100000
set_option maxHeartbeats 1000000
/-! Sj2: arithmetic, sums and repeats of sequences, subscripts, slices. -/
namespace Ev
open PySem PySem.Spec PyProof.Rows L2
section
variable {X : Cx} {F : Fr}
theorem onI_okR {K : PySem.W.Frag} {H : Hp} {μ : List Addr} {β : Type} {v : PV} {V : L2.V} {f : Int → Res β} {G : β → Mem → Prop} {E : Nat → List PV → Mem → Prop} (r : RV K H μ v V) (h : Ok (v.onI .no f) G E) : ∃ i, v = .int i ∧ V = .int i ∧ Ok (f i) G E := onI_ok r h
theorem o_sub : OpR X (binaryOp .Sub) (R2 F opSub) := by
  intro pins s σ H x y v u Q I rx ry q
  obtain ⟨μ, M, a, c, m, r1, r2, q⟩ := q
  obtain ⟨i, rfl, rfl, q⟩ := onI_ok r1 q
  obtain ⟨j, rfl, rfl, q⟩ := onI_ok r2 q
  exact op_sub pins s σ H _ _ v u Q I rx ry ⟨i, j, rfl, rfl, q _ H μ .refl m (.int _)⟩
theorem modI_eq (i : Int) (k : Nat) (hk : 1 ≤ k) : modI i k = i % (k : Int) := by
  cases i with
  | ofNat n => exact (Int.natCast_emod n k).symm
  | negSucc n =>
    show ((Nat.sub k (Nat.succ (n % k)) : Nat) : Int) = Int.negSucc n % (k : Int)
    rw [Int.negSucc_emod n (by omega)]
    have h : n % k < k := Nat.mod_lt _ (by omega)
    have e : Nat.sub k (Nat.succ (n % k)) = k - (n % k + 1) := rfl
    rw [e]
    have : ((n % k : Nat) : Int) = (n : Int) % (k : Int) := Int.natCast_emod n k
    omega
theorem divI_eq (i : Int) (k : Nat) (hk : 1 ≤ k) : divI i k = i / (k : Int) := by
  cases i with
  | ofNat n => exact (Int.natCast_ediv n k).symm
  | negSucc n =>
    show Int.negSucc (n / k) = Int.negSucc n / (k : Int)
    rw [Int.negSucc_ediv n (by omega : (0 : Int) < k), Int.negSucc_eq]
    have : ((n / k : Nat) : Int) = (n : Int).ediv (k : Int) := Int.natCast_ediv n k
    omega
theorem o_mod : OpR X (binaryOp .Mod) (R2 F opMod) := by
  intro pins s σ H x y v u Q I rx ry q
  obtain ⟨μ, M, a, c, m, r1, r2, q⟩ := q
  obtain ⟨i, rfl, rfl, q⟩ := onI_ok r1 q
  obtain ⟨j, rfl, rfl, q⟩ := onI_ok r2 q
  cases j with
  | negSucc k => exact q.elim
  | ofNat k =>
    obtain ⟨hk, q⟩ := yes_ok (show Ok (yes (Nat.ble 1 k) (Res.ok (PV.int (modI i k)) M) Res.no) _ _ from q)
    rw [natBle] at hk
    rw [modI_eq i k hk] at q
    exact op_mod pins s σ H _ _ v u Q I rx ry ⟨i, _, rfl, rfl, by show (0 : Int) < (k : Int); omega, q _ H μ .refl m (.int _)⟩
theorem o_fdiv : OpR X (binaryOp .FloorDiv) (R2 F opFdiv) := by
  intro pins s σ H x y v u Q I rx ry q
  obtain ⟨μ, M, a, c, m, r1, r2, q⟩ := q
  obtain ⟨i, rfl, rfl, q⟩ := onI_ok r1 q
  obtain ⟨j, rfl, rfl, q⟩ := onI_ok r2 q
  cases j with
  | negSucc k => exact q.elim
  | ofNat k =>
    obtain ⟨hk, q⟩ := yes_ok (show Ok (yes (Nat.ble 1 k) (yes (Nat.ble k 1073741823) (Res.ok (PV.int (divI i k)) M) Res.no) Res.no) _ _ from q)
    obtain ⟨hk2, q⟩ := yes_ok q
    rw [natBle] at hk hk2
    rw [divI_eq i k hk] at q
    exact op_fdiv pins s σ H _ _ v u Q I rx ry ⟨i, _, rfl, rfl, ⟨by show (0 : Int) < (k : Int); omega, by show (k : Int) < 1073741824; omega⟩, q _ H μ .refl m (.int _)⟩
theorem o_pow : OpR X (binaryOp .Pow) (R2 F opPow) := by
  intro pins s σ H x y v u Q I rx ry q
  obtain ⟨μ, M, a, c, m, r1, r2, q⟩ := q
  obtain ⟨i, rfl, rfl, q⟩ := onI_ok r1 q
  obtain ⟨j, rfl, rfl, q⟩ := onI_ok r2 q
  cases j with
  | negSucc k => exact q.elim
  | ofNat k => cases i with
    | negSucc n => exact q.elim
    | ofNat n =>
      obtain ⟨h1, q⟩ := yes_ok (show Ok (yes (Nat.ble k 1000) (yes (Nat.ble n 1000000) (Res.ok (PV.int (.ofNat (Nat.pow n k))) M) Res.no) Res.no) _ _ from q)
      obtain ⟨h2, q⟩ := yes_ok q
      rw [natBle] at h1 h2
      refine op_pow pins s σ H _ _ v u Q I rx ry ⟨_, _, rfl, rfl, ⟨by show (0 : Int) ≤ (k : Int); omega, by show (k : Int) ≤ 1000000; omega, by show n < 2 ^ 64; omega⟩, ?_⟩
      have e : (Int.ofNat n) ^ (Int.ofNat k).toNat = Int.ofNat (Nat.pow n k) := by
        show (n : Int) ^ k = ((n ^ k : Nat) : Int)
        rw [Int.natCast_pow]
      show Q (V.int (Int.ofNat n ^ (Int.ofNat k).toNat)) H
      rw [e]
      exact q _ H μ .refl m (.int _)
theorem u_neg : UnR X (unaryOp .USub) (R1 F negV) := by
  intro pins s σ H x v Q I rx q
  obtain ⟨μ, M, a, m, r1, q⟩ := q
  obtain ⟨i, rfl, rfl, q⟩ := onI_ok r1 q
  exact un_neg pins s σ H _ v Q I rx ⟨i, rfl, q _ H μ .refl m (.int _)⟩
theorem new_ok {E : Nat → List PV → Mem → Prop} {H : Hp} {μ : List Addr} {M : Mem} {p : Addr} {o : HO} {ob : Ev.Obj} {Q : VK} (m : F.RM H μ M) (hp : H p = none) (r : ∀ H' μ', F.Ext H μ M H' μ' (M ++ [ob]) → H' p = some o → RO F.K H' μ' p ob) (q : Ok (new M ob) (F.Gd H μ M Q) E) : Q (.ref p) (upd H p o) :=
  new_gd (E := E) .refl m hp r q
/-- a tuple made anew -/
theorem tup_ok {H : Hp} {μ : List Addr} {M : Mem} {p : Addr} {xs : List PV} {vs : List V} {Q : VK} (m : F.RM H μ M) (hp : H p = none) (r : RVs F.K H μ xs vs) (q : F.Gd H μ M Q (.tup false xs) M) : Q (.ref p) (upd H p (.tup vs)) := by
  have k := keepNew (o := .tup vs) hp
  exact q _ _ μ (Ext.same k) (m.same k) (.tup (f := false) upd_same (r.ext (Ext.same (b := F.c.b) (M := M) k)))
theorem mineAt_ok {α : Type} {K : PySem.W.Frag} {b : Nat} {H : Hp} {μ : List Addr} {M : Mem} {i : Nat} {a : Addr} {f : List PV → Res α} {G : α → Mem → Prop} {E : Nat → List PV → Mem → Prop} (m : RM K b H μ M) (e : μ[i]? = some a) (h : Ok (opt (mineAt M i) .no f) G E) :
    ∃ xs vs, M[i]? = some (.lst xs) ∧ H a = some (.lst vs) ∧ RVs K H μ xs vs ∧ Ok (f xs) G E := by
  obtain ⟨xs, e1, h⟩ := opt_ok h
  have e1 : opt (nth M i) none Obj.mine = some xs := e1
  obtain ⟨o, ho, ro⟩ := m.at e
  rw [nth_eq, ho] at e1
  cases ro with
  | box _ _ => first | (cases e; done) | (cases e1; done) | (cases h; done) | (cases hk; done) | (cases q; done) | (exact False.elim q) | (exact False.elim h)
  | lst h1 h2 => cases e1; exact ⟨_, _, ho, h1, h2, h⟩
  | ro h1 h2 => cases e1
  | dk h1 h2 => cases e1
  | dt h1 h2 => cases e1
theorem line_eq : line = sizeLine := by decide
theorem txt_app (s t : List Nat) : txt (s ++ t) = txt s ++ txt t := by
  show Str.mk _ = Str.mk _
  simp [txt]
theorem txt_len (s : List Nat) : (txt s).length = s.length := rfl
theorem o_add (hK : F.K = X.K) : OpR X (binaryOp .Add) (R2 F opAdd) := by
  intro pins s σ H x y v u Q I rx ry q
  obtain ⟨μ, M, a, c, m, r1, r2, q⟩ := q
  cases r1 with
  | int i =>
    obtain ⟨j, rfl, rfl, q⟩ := onI_ok r2 (show Ok (c.onI .no fun j => Res.ok (PV.int (Int.add i j)) M) _ _ from q)
    exact op_add pins s σ H _ _ v u Q I rx ry ⟨i, j, rfl, rfl, q _ H μ .refl m (.int _)⟩
  | str s1 t1 => cases r2 with
    | str s2 t2 =>
      obtain ⟨hl, q⟩ := yes_ok (show Ok (yes (lenOk (Nat.add (len s1) (len s2))) (Res.ok (PV.str (app s1 s2)) M) Res.no) _ _ from q)
      rw [len_eq, len_eq] at hl
      have hl := natBle.mp (show Nat.ble (s1.length + s2.length) line = true from hl)
      rw [line_eq] at hl
      rw [app_eq] at q
      refine op_add_str pins s σ H _ _ v u Q I rx ry ⟨_, _, rfl, rfl, hl, ?_⟩
      rw [← txt_app]
      refine q _ H μ .refl m (.str _ ⟨fun d hd => ?_, by rw [List.length_append]; exact hl⟩)
      rcases List.mem_append.mp hd with h | h
      · exact t1.1 d h
      · exact t2.1 d h
    | _ => exact q.elim
  | @tup f p xs vs st l => cases r2 with
    | @tup g p2 ys ws st2 l2 =>
      obtain ⟨hl, q⟩ := yes_ok (show Ok (yes (lenOk (Nat.add (len xs) (len ys))) (lc xs (Res.ok (PV.tup g ys) M) fun _ _ => lc ys (Res.ok (PV.tup f xs) M) fun _ _ => Res.ok (PV.tup false (app xs ys)) M) Res.no) _ _ from q)
      rw [len_eq, len_eq] at hl
      have hl := natBle.mp (show Nat.ble (xs.length + ys.length) line = true from hl)
      rw [line_eq, l.length, l2.length] at hl
      rw [app_eq] at q
      refine op_catA pins s σ H _ _ v u Q I rx ry ⟨p, p2, vs, ws, rfl, rfl, hK ▸ st.sq, hK ▸ st2.sq, hl, fun e => ?_, fun n e => ?_, fun n n' p3 hp => ?_⟩
      · subst e; cases l; exact q _ H μ .refl m (.tup st2 l2)
      · cases l with
        | nil => exact absurd rfl n
        | cons _ _ => subst e; cases l2; exact q _ H μ .refl m (.tup st (.cons ‹_› ‹_›))
      · cases l with
        | nil => exact absurd rfl n
        | cons h1 h2 => cases l2 with
          | nil => exact absurd rfl n'
          | cons h3 h4 => exact tup_ok m hp ((RVs.cons h1 h2).append (.cons h3 h4)) q
    | _ => exact q.elim
  | @ref i p e => cases r2 with
    | @ref j p2 e2 =>
      obtain ⟨xs, vs, h1, h2, h3, q⟩ := mineAt_ok m e (show Ok (opt (mineAt M i) .no fun xs => opt (mineAt M j) .no fun ys => yes (lenOk (Nat.add (len xs) (len ys))) (new M (.lst (app xs ys))) .no) _ _ from q)
      obtain ⟨ys, ws, h1', h2', h3', q⟩ := mineAt_ok m e2 q
      obtain ⟨hl, q⟩ := yes_ok q
      rw [len_eq, len_eq] at hl
      have hl := natBle.mp (show Nat.ble (xs.length + ys.length) line = true from hl)
      rw [line_eq, h3.length, h3'.length] at hl
      rw [app_eq] at q
      exact op_cat pins s σ H _ _ v u Q I rx ry ⟨p, p2, vs, ws, rfl, rfl, h2, h2', hl, fun p3 hp => new_ok m hp (fun H' μ' x' e' => .lst e' ((h3.ext x').append (h3'.ext x'))) q⟩
    | _ => exact q.elim
  | _ => exact q.elim
/-- t * 1 is t -/
theorem tup_mul1 (l : Addr) (items : Array Value) (n : Nat) (dd : Option Addr) (sl : Array (Option Value)) (u : Tok) :
    Meets (Builtin.«tuple.__mul__» ⟨[.ref l, .int 1 u], []⟩) (fun _ R s => s.heap.get? l = some { cls := .type "tuple", dict := dd, data := .seq items n, slots := sl } ∧ R (.ok (.ret (Value.ref l))) s) :=
  .of_wp fun prog w A R s h => by
    obtain ⟨hp, g, d, tk, os⟩ := s
    obtain ⟨hl, h⟩ := h
    have f1 := AutoSeq1.idx_int
    have c1 : (items.isEmpty || (1 : Int) == 1) = true := by cases items.isEmpty <;> rfl
    wp_walk using wpAny_loadPart' hl
    repeat (first
      | (refine wpAny_ite_false (decide_eq_false (by decide)) ?_; wp_walk using wpAny_loadPart' hl)
      | (rw [if_pos c1]; wp_walk using wpAny_loadPart' hl))
    exact ⟨_, rfl, h⟩
end
end Ev

set_option Elab.async false
set_option linter.all false
set_option maxRecDepth 100000
set_option maxHeartbeats 1000000
/-! Sj3: products, subscripts, slices. -/
namespace Ev
open PySem PySem.Spec PyProof.Rows L2
section
variable {X : Cx} {F : Fr}
theorem op_repT1 : OpR X (binaryOp .Mult) (fun x y H Q => ∃ l xs, x = .ref l ∧ y = .int 1 ∧ SqT X.K H l xs ∧ Q (.ref l) H) := by
  intro pins s σ H x y v u Q I rx ry h
  obtain ⟨l, xs, rfl, rfl, hT, q⟩ := h
  cases rx
  obtain ⟨t, rfl⟩ := ry
  obtain ⟨its, r, ⟨⟨cls, dd, data, sl⟩, ho, hc, n, hd⟩, hs⟩ := I.tuple hT
  simp only at hc hd
  subst hc hd
  exact wpAny_binaryOp_repeat_ref (T := "tuple") (U := "int") (by decide) ⟨_, ho, rfl⟩ (fun s' => typeIs_int s' 1 t) noFill_tuple_mul F.fills_int_mul F.slot_int_rmul repeat_tuple F.slot_int_index.lookup
    (call_meets F.slot_int_rmul (typeIs_int s 1 t) F.entry_int_rmul (F.args_int_rmul_2 _ _) (int_rmul_tuple 1 t l its.toArray n dd sl)
      ⟨ho, rfl, ⟨_, ho, rfl⟩, call_meets F.slot_tuple_mul ⟨_, ho, rfl⟩ F.entry_tuple_mul (F.args_tuple_mul_2 _ _) (tup_mul1 l its.toArray n dd sl t) ⟨ho, ⟨.ref l, H, I, rfl, q⟩⟩⟩)
theorem fitMul_or {i j : Int} (h : fitMul i j = true) : CMul i j ∨ CMulW i j := by
  unfold fitMul at h
  have e : two64 = 2 ^ 64 := rfl
  cases h1 : Nat.ble (Nat.succ i.natAbs) two64 with
  | true => rw [natBle, e] at h1; exact .inl (.inl (by omega))
  | false =>
    rw [h1] at h
    have h : yes (Nat.ble (Nat.succ j.natAbs) two64) true (Nat.ble (Nat.add (Nat.succ i.natAbs).log2 (Nat.succ j.natAbs).log2) 100000) = true := h
    cases h2 : Nat.ble (Nat.succ j.natAbs) two64 with
    | true => rw [natBle, e] at h2; exact .inl (.inr (by omega))
    | false =>
      rw [h2] at h
      have h : Nat.ble ((Nat.succ i.natAbs).log2 + (Nat.succ j.natAbs).log2) 100000 = true := h
      rw [natBle] at h
      have mono : ∀ n : Nat, n.log2 ≤ (n + 1).log2 := fun n => by
        by_cases z : n = 0
        · subst z; exact Nat.zero_le _
        · exact (Nat.le_log2 (by omega)).mpr (Nat.le_trans (Nat.log2_self_le z) (Nat.le_succ n))
      have a := mono i.natAbs
      have b := mono j.natAbs
      refine .inr ?_
      show i.natAbs.log2 + j.natAbs.log2 < 1000000
      have a' : (Nat.succ i.natAbs).log2 = (i.natAbs + 1).log2 := rfl
      have b' : (Nat.succ j.natAbs).log2 = (j.natAbs + 1).log2 := rfl
      omega
theorem full_ne {α : Type} {l : List α} (h : full l = true) : l ≠ [] := by
  intro e; subst e; cases h
theorem o_mul (hK : F.K = X.K) : OpR X (binaryOp .Mult) (R2 F opMul) := by
  intro pins s σ H x y v u Q I rx ry q
  obtain ⟨μ, M, a, c, m, r1, r2, q⟩ := q
  obtain ⟨j, rfl, rfl, q⟩ := onI_ok r2 q
  cases r1 with
  | int i =>
    obtain ⟨hf, q⟩ := yes_ok (show Ok (yes (fitMul i j) (Res.ok (PV.int (Int.mul i j)) M) Res.no) _ _ from q)
    rcases fitMul_or hf with h | h
    · exact op_mul pins s σ H _ _ v u Q I rx ry ⟨i, j, rfl, rfl, h, q _ H μ .refl m (.int _)⟩
    · exact op_mulW pins s σ H _ _ v u Q I rx ry ⟨i, j, rfl, rfl, h, q _ H μ .refl m (.int _)⟩
  | @tup f p xs vs st l => cases j with
    | negSucc k => exact q.elim
    | ofNat k =>
      have q : Ok (yes (Nat.beq k 1) (Res.ok (PV.tup f xs) M) (yes (Nat.ble 2 k) (yes (Nat.ble k 1000) (yes (full xs) (yes (Nat.ble (len xs) 1000) (Res.ok (PV.tup false (rep xs k)) M) .no) .no) .no) .no)) (F.Gd H μ M Q) (fun _ _ _ => False) := q
      cases hk : Nat.beq k 1 with
      | true =>
        rw [hk] at q
        rw [Nat.beq_eq] at hk
        subst hk
        exact op_repT1 pins s σ H _ _ v u Q I rx ry ⟨p, vs, rfl, rfl, hK ▸ st.sq, q _ H μ .refl m (.tup st l)⟩
      | false =>
        rw [hk] at q
        obtain ⟨h1, q⟩ := yes_ok (show Ok (yes (Nat.ble 2 k) (yes (Nat.ble k 1000) (yes (full xs) (yes (Nat.ble (len xs) 1000) (Res.ok (PV.tup false (rep xs k)) M) .no) .no) .no) .no) (F.Gd H μ M Q) (fun _ _ _ => False) from q)
        obtain ⟨h2, q⟩ := yes_ok q
        obtain ⟨h3, q⟩ := yes_ok q
        obtain ⟨h4, q⟩ := yes_ok q
        rw [natBle] at h1 h2
        rw [len_eq, natBle, l.length] at h4
        rw [rep_eq] at q
        refine op_repT pins s σ H _ _ v u Q I rx ry ⟨p, _, vs, rfl, rfl, hK ▸ st.sq, fun e => ?_, by show (2 : Int) ≤ (k : Int); omega, by show (k : Int) ≤ 1000; omega, h4, fun p3 hp => ?_⟩
        · subst e; cases l; exact full_ne h3 rfl
        · exact tup_ok m hp (l.rep k) q
  | @ref i p e => cases j with
    | negSucc k => exact q.elim
    | ofNat k =>
      obtain ⟨xs, vs, h1, h2, h3, q⟩ := mineAt_ok m e (show Ok (opt (mineAt M i) .no fun xs => yes (Nat.ble k 1000000000) (yes (lenOk (Nat.mul (len xs) k)) (new M (.lst (rep xs k))) .no) .no) _ _ from q)
      obtain ⟨hk, q⟩ := yes_ok q
      obtain ⟨hl, q⟩ := yes_ok q
      rw [natBle] at hk
      rw [len_eq] at hl
      have hl := natBle.mp (show Nat.ble (xs.length * k) line = true from hl)
      rw [line_eq, h3.length] at hl
      rw [rep_eq] at q
      exact op_rep pins s σ H _ _ v u Q I rx ry ⟨p, _, vs, rfl, rfl, h2, by show -(2 ^ 63) ≤ (k : Int); omega, by show (k : Int) < 2 ^ 63; omega, hl, fun p3 hp => new_ok m hp (fun H' μ' x' e' => .lst e' ((h3.ext x').rep k)) q⟩
  | non => cases j <;> exact q.elim
  | bl => cases j <;> exact q.elim
  | str => cases j <;> exact q.elim
/-! ### subscripts -/
theorem ix_dict (hu : X.A.units + 1 < cLine) : IxR X (fun x y H Q => ∃ a v, x = .ref a ∧ DGet H a y (some v) ∧ Q v H) := by
  intro value slice pins s σ H x y v u Q I rx ry h hs
  obtain ⟨a, w, rfl, g, q⟩ := h
  cases rx
  exact tail_any (dict_typeIs I g) PySem.F.slot_dict_getitem.lookup (d_getItem hu I g ry fun w' s3 I3 rw' => ⟨w, H, I3, rw', q⟩) hs
theorem getAt {K : PySem.W.Frag} {H : Hp} {μ : List Addr} {xs : List PV} {vs : List V} {i : Int} {v : PV} (l : RVs K H μ xs vs) (h : Ev.atI xs i = some v) : ∃ w, L2.atI vs i = some w ∧ RV K H μ v w := by
  have h2 := atI_eq h
  unfold L2.atI at h2 ⊢
  rw [← l.length]
  cases e : L2.ixN xs.length i with
  | none => rw [e] at h2; cases h2
  | some j =>
    rw [e] at h2
    exact l.get h2
theorem ix_all (hK : F.K = X.K) (hu : X.A.units + 1 < cLine) : IxR X (R2 F evIdx) := by
  intro value slice pins s σ H x y v u Q I rx ry q hs
  obtain ⟨μ, M, a, c, m, r1, r2, q⟩ := q
  cases r1 with
  | str s1 t1 =>
    obtain ⟨i, rfl, rfl, q⟩ := onI_ok r2 (show Ok (c.onI .no fun i => opt (Ev.atI s1 i) .no fun c => Res.ok (PV.str [c]) M) _ _ from q)
    obtain ⟨d, e, q⟩ := opt_ok q
    have e2 := atI_eq e
    have hd : d ∈ s1 := by
      unfold L2.atI at e2
      cases e3 : L2.ixN s1.length i with
      | none => rw [e3] at e2; cases e2
      | some j => rw [e3] at e2; exact List.mem_of_getElem? e2
    exact ix_str value slice pins s σ H _ _ v u Q I rx ry ⟨_, i, d, rfl, rfl, t1.2, by simpa [txt] using e2, q _ H μ .refl m (.str [d] ⟨fun z hz => by simp at hz; subst hz; exact t1.1 _ hd, by show 1 ≤ sizeLine; decide⟩)⟩ hs
  | @tup f p xs vs st l =>
    obtain ⟨i, rfl, rfl, q⟩ := onI_ok r2 (show Ok (c.onI .no fun i => opt (Ev.atI xs i) .no fun v => Res.ok v M) _ _ from q)
    obtain ⟨d, e, q⟩ := opt_ok q
    obtain ⟨w, e2, rw'⟩ := getAt l e
    exact ix_tup value slice pins s σ H _ _ v u Q I rx ry ⟨p, vs, i, w, rfl, rfl, hK ▸ st.sq, e2, q _ H μ .refl m rw'⟩ hs
  | @ref i p e =>
    obtain ⟨ob, hM, ro⟩ := m.at e
    have q : Ok (opt (nth M i) .no fun o => opt o.items (opt o.dict .no fun d => yes (keyOk d.1 c) (opt (find c d.2) .no fun v => Res.ok v M) .no) fun xs => c.onI .no fun i => opt (Ev.atI xs i) .no fun v => Res.ok v M) (F.Gd H μ M Q) (fun _ _ _ => False) := q
    rw [nth_eq, hM] at q
    have lst : ∀ {xs : List PV} {vs : List V}, SqL F.K H p vs → RVs F.K H μ xs vs → Ok (c.onI .no fun i => opt (Ev.atI xs i) .no fun v => Res.ok v M) (F.Gd H μ M Q) (fun _ _ _ => False) → wpAny (model X.prog X.w) X.A (subscriptTail value slice v u) (EP X pins σ Q) X.xe s := fun {xs vs} h1 h2 q => by
      obtain ⟨i, rfl, rfl, q⟩ := onI_ok r2 q
      obtain ⟨d, e, q⟩ := opt_ok q
      obtain ⟨w, e2, rw'⟩ := getAt h2 e
      exact ix_list value slice pins s σ H _ _ v u Q I rx ry ⟨p, vs, i, w, rfl, rfl, hK ▸ h1, e2, q _ H μ .refl m rw'⟩ hs
    cases ro with
    | box _ _ => first | (cases e; done) | (cases e1; done) | (cases h; done) | (cases hk; done) | (cases q; done) | (exact False.elim q) | (exact False.elim h)
    | lst h1 h2 => exact lst (.of h1) h2 q
    | ro h1 h2 => exact lst h1.sq h2 q
    | @dk kvs mm h1 h2 =>
      obtain ⟨kk, q⟩ := yes_ok (show Ok (yes (keyOk false c) (opt (find c kvs) .no fun v => Res.ok v M) .no) _ _ from q)
      obtain ⟨d, e1, q⟩ := opt_ok q
      obtain ⟨qk, hq⟩ := keyOk_leaf kk
      obtain ⟨rfl, _⟩ := r2.key hq
      have := h2.find hq
      rw [e1] at this
      obtain ⟨w, e2, rw'⟩ := this
      have g : DGet H p (kV qk) (some w) := by rw [← e2]; exact .k h1
      exact ix_dict hu value slice pins s σ H _ _ v u Q I rx ry ⟨p, w, rfl, g, q _ H μ .refl m rw'⟩ hs
    | @dt kvs mm h1 h2 =>
      obtain ⟨kk, q⟩ := yes_ok (show Ok (yes (keyOk true c) (opt (find c kvs) .no fun v => Res.ok v M) .no) _ _ from q)
      obtain ⟨d, e1, q3⟩ := opt_ok q
      obtain ⟨ks, qk, rfl, hq⟩ := keyOk_tup kk
      cases r2 with
      | @tup _ bk _ ws t1 t2 =>
      obtain ⟨rfl, _⟩ := t2.keys hq
      have := h2.find hq
      rw [e1] at this
      obtain ⟨w, e2, rw'⟩ := this
      have g : DGet H p (.ref bk) (some w) := by rw [← e2]; exact .t h1 t1
      exact ix_dict hu value slice pins s σ H _ _ v u Q I rx ry ⟨p, w, rfl, g, q3 _ H μ .refl m rw'⟩ hs
  | _ => exact q.elim
/-! ### slices -/
theorem sIx_eq (n d : Nat) (o : Option Int) : Ev.sIx n d o = HT.sIx n d o := by
  cases o with
  | none => rfl
  | some i =>
    unfold HT.sIx
    cases i with
    | ofNat k =>
      show yes (Nat.ble k n) k n = _
      have : ¬ (Int.ofNat k < 0) := by show ¬ ((k : Int) < 0); omega
      simp only [this, if_false]
      show _ = min k n
      cases h : Nat.ble k n with
      | true => rw [natBle] at h; show k = _; omega
      | false =>
        have : ¬ k ≤ n := fun z => by rw [natBle.mpr z] at h; cases h
        show n = _; omega
    | negSucc k =>
      show Nat.sub n (Nat.succ k) = _
      have : Int.negSucc k < 0 := Int.negSucc_lt_zero k
      simp only [this, if_true]
      show n - (k + 1) = _
      rw [Int.negSucc_eq]
      omega
theorem cutL_eq {α : Type} (xs : List α) (lo hi : Option Int) : cutL xs lo hi = (xs.drop (HT.sIx xs.length 0 lo)).take (HT.sIx xs.length xs.length hi - HT.sIx xs.length 0 lo) := by
  unfold cutL
  rw [takeL_eq, dropL_eq, len_eq, sIx_eq, sIx_eq]
  rfl
theorem cutL_rel {K : PySem.W.Frag} {H : Hp} {μ : List Addr} {xs : List PV} {vs : List V} (l : RVs K H μ xs vs) (lo hi : Option Int) : RVs K H μ (cutL xs lo hi) (cutV vs lo hi) := by
  rw [cutL_eq]
  unfold cutV
  rw [l.length]
  exact (l.drop _).take _
def RSl (F : Fr) : V → Option Int → Option Int → Hp → VK → Prop := fun x lo hi H Q => ∃ μ M v, F.RM H μ M ∧ RV F.K H μ v x ∧ Ok (evCut M v lo hi) (F.Gd H μ M Q) fun _ _ _ => False
theorem sl_all (hK : F.K = X.K) : SlR X (RSl F) := by
  intro pins s σ H x v vl vu lo hi sl Q I rx hs pl pu q
  obtain ⟨μ, M, a, m, r1, q⟩ := q
  cases r1 with
  | str s1 t1 =>
    have q : F.Gd H μ M Q (.str (cutL s1 lo hi)) M := q
    refine sl_str pins s σ H _ v vl vu lo hi sl Q I rx hs pl pu ⟨_, rfl, t1.2, ?_⟩
    have e : cutS (txt s1) lo hi = txt (cutL s1 lo hi) := by rw [cutL_eq]; rfl
    rw [e]
    refine q _ H μ .refl m (.str _ ⟨fun c hc => ?_, ?_⟩)
    · rw [cutL_eq] at hc
      exact t1.1 c (List.mem_of_mem_drop (List.mem_of_mem_take hc))
    · rw [cutL_eq, List.length_take, List.length_drop]
      have := t1.2
      omega
  | @tup f p xs vs st l =>
    have q : Ok (yes (yes (Nat.beq (Ev.sIx (len xs) 0 lo) 0) (Nat.beq (Ev.sIx (len xs) (len xs) hi) (len xs)) false) (Res.ok (PV.tup f xs) M) (Res.ok (PV.tup false (cutL xs lo hi)) M)) (F.Gd H μ M Q) (fun _ _ _ => False) := q
    rw [sIx_eq, sIx_eq, len_eq, l.length, yes_and] at q
    refine sl_tupA pins s σ H _ v vl vu lo hi sl Q I rx hs pl pu ⟨p, vs, rfl, hK ▸ st.sq, fun e => ?_, fun e p3 hp => ?_⟩
    · have e2 : (Nat.beq (HT.sIx vs.length 0 lo) 0 && Nat.beq (HT.sIx vs.length vs.length hi) vs.length) = true := by rw [Bool.and_eq_true, Nat.beq_eq, Nat.beq_eq]; exact e
      rw [e2] at q
      exact q _ H μ .refl m (.tup st l)
    · have e2 : (Nat.beq (HT.sIx vs.length 0 lo) 0 && Nat.beq (HT.sIx vs.length vs.length hi) vs.length) = false := by
        rw [Bool.eq_false_iff]
        intro h
        rw [Bool.and_eq_true, Nat.beq_eq, Nat.beq_eq] at h
        exact e h
      rw [e2] at q
      exact tup_ok m hp (cutL_rel l lo hi) q
  | @ref i p e =>
    obtain ⟨xs, vs, h1, h2, h3, q⟩ := mineAt_ok m e (show Ok (opt (mineAt M i) .no fun xs => new M (.lst (cutL xs lo hi))) _ _ from q)
    exact sl_list pins s σ H _ v vl vu lo hi sl Q I rx hs pl pu ⟨p, vs, rfl, hK ▸ .of h2, fun p3 hp => new_ok m hp (fun H' μ' x' e' => .lst e' (cutL_rel (h3.ext x') lo hi)) q⟩
  | _ => exact q.elim
def tO (F : Fr) (o : So) : TO := fun σ H Q => ∃ μ M ρ, F.At σ H μ M ρ ∧ Ok (o F.c ρ M) (fun i M' => ∀ H' μ', F.Ext H μ M H' μ' M' → F.RM H' μ' M' → Q i H') (F.Ge H μ M σ)
theorem p_none : PO X none (tO F oNone) := ⟨fun pins s σ H Q I h => po_none.run pins s σ H Q I (by
  obtain ⟨μ, M, ρ, A, q⟩ := h
  exact q H μ .refl A.m)⟩
theorem p_some {e : Expr} {x : Se} (h : PE X e (tE F x)) : PO X (some e) (tO F (oSome x)) := ⟨fun pins s σ H Q I q => (po_some h).run pins s σ H Q I (by
  obtain ⟨μ, M, ρ, A, q⟩ := q
  refine ⟨μ, M, ρ, A, (Ok.bind.mp q).mono (fun v M1 q V H1 μ1 x1 m1 r1 => ?_) fun _ _ _ q => q⟩
  obtain ⟨i, rfl, rfl, q⟩ := onI_ok r1 q
  exact ⟨i, rfl, q H1 μ1 x1 m1⟩)⟩
theorem nx_cut {M : Mem} {v : PV} {lo hi : Option Int} : NX (evCut M v lo hi) := by
  cases v <;> first | exact trivial | exact nx_opt trivial fun _ => trivial | exact nx_yes trivial trivial
theorem e_cut {e : Expr} {lo hi : Option Expr} {x : Se} {l h : So} {pos p2 : Pos} (hK : F.K = X.K) (he : PE X e (tE F x)) (hl : PO X lo (tO F l)) (hh : PO X hi (tO F h)) : PE X (.Subscript e (.Slice lo hi none p2) pos) (tE F (sCut x l h)) := by
  refine (pe_slice (sl_all hK) he hl hh).imp fun σ H Q q => ?_
  obtain ⟨μ, M, ρ, A, q⟩ := q
  refine ⟨μ, M, ρ, A, (Ok.bind.mp q).mono (fun v M1 q V H1 μ1 x1 m1 r1 => ?_) fun _ _ _ q => q⟩
  refine ⟨μ1, M1, ρ, A.go x1 m1, (Ok.bind.mp q).mono (fun a M2 q H2 μ2 x2 m2 => ?_) fun _ _ _ q => q.step x1⟩
  refine ⟨μ2, M2, ρ, (A.go x1 m1).go x2 m2, (Ok.bind.mp q).mono (fun b M3 q H3 μ3 x3 m3 => ?_) fun _ _ _ q => q.step (x1.trans x2)⟩
  exact ⟨μ3, M3, v, m3, (r1.ext x2).ext x3, (q.nx nx_cut).mono (fun _ _ q => q.step ((x1.trans x2).trans x3)) fun _ _ _ q => q⟩
end
end Ev

set_option Elab.async false
set_option linter.all false
set_option maxRecDepth 100000
set_option maxHeartbeats 1000000
/-! Sj4: calls of built-in functions. -/
namespace Ev
open PySem PySem.Spec PyProof.Rows L2
section
variable {X : Cx} {F : Fr} {pos : Pos}
theorem toL {f : Mem → List PV → Res PV} {l : Sl} (n : ∀ M v, NX (f M v)) {σ : L2.St} {H : Hp} {Q : VK} (h : tE F (sBi f l) σ H Q) : tL F l σ H fun v H1 => RL F f v H1 Q := by
  obtain ⟨μ, M, ρ, a, q⟩ := h
  refine ⟨μ, M, ρ, a, (Ok.bind.mp q).mono (fun v M1 q V H1 μ1 x1 m1 r1 => ?_) fun _ _ _ q => q⟩
  exact ⟨μ1, M1, v, m1, r1, (q.nx (n M1 v)).mono (fun _ _ q => q.step x1) fun _ _ _ q => q⟩
theorem e_biB {f : Mem → List PV → Res PV} {x : Str} {p : Pos} {e : Expr} {es : List Expr} {l : Sl} {id : String} (n : ∀ M v, NX (f M v)) (hc : CallR X (.builtin id) (RL F f)) (hg : Gl X x) (hm : X.mg x = none) (hv : bootBuiltins x = some (.builtin id)) (ha : PA X (e :: es) (tL F l)) (hn : x ≠ "__name__") (hdb : (x == ("__debug__" : Str)) = false)
    (he : starEach (e :: es) X.env = (false, eval e X.env) :: starEach es X.env) (hpl : (backTo pos (starEach es X.env)).any (·.1) = false) : PE X (.Call (.Name x p) (e :: es) [] pos) (tE F (sBi f l)) :=
  (pe_callB hc hg hm hv ha hn hdb he hpl).imp fun _ _ _ h => toL n h
theorem e_biT {f : Mem → List PV → Res PV} {x : Str} {p : Pos} {e : Expr} {es : List Expr} {l : Sl} {T : String} (n : ∀ M v, NX (f M v)) (hc : CallR X (.type T) (RL F f)) (hg : Gl X x) (hm : X.mg x = none) (hv : bootBuiltins x = some (.type T)) (ha : PA X (e :: es) (tL F l)) (hn : x ≠ "__name__") (hdb : (x == ("__debug__" : Str)) = false)
    (he : starEach (e :: es) X.env = (false, eval e X.env) :: starEach es X.env) (hpl : (backTo pos (starEach es X.env)).any (·.1) = false) : PE X (.Call (.Name x p) (e :: es) [] pos) (tE F (sBi f l)) :=
  (pe_callTy hc hg hm hv ha hn hdb he hpl).imp fun _ _ _ h => toL n h
/-- a rule for one argument -/
theorem one_arg {f : Mem → PV → Res PV} {g : Value} (h : ∀ (pins : List (Addr × PySem.Obj)) (s : Shared) (σ : L2.St) (H : Hp) (x : V) (u : Value) (Q : VK), Inv X pins σ H s → RelV x u → R1 F f x H Q → wpAny (model X.prog X.w) X.A (call g [u]) (EP X pins σ Q) X.xe s) : CallR X g (RL F (b1 f)) := by
  intro pins s σ H xs us Q I r q
  obtain ⟨μ, M, vs, m, rv, q⟩ := q
  cases rv with
  | nil => exact q.elim
  | cons r1 rr => cases rr with
    | cons _ _ => exact q.elim
    | nil =>
      obtain ⟨u, rfl, ru⟩ := r.one
      exact h pins s σ H _ u Q I ru ⟨μ, M, _, m, r1, q⟩
theorem two_args {f : Mem → PV → PV → Res PV} {g : Value} (h : ∀ (pins : List (Addr × PySem.Obj)) (s : Shared) (σ : L2.St) (H : Hp) (x y : V) (u v : Value) (Q : VK), Inv X pins σ H s → RelV x u → RelV y v → R2 F f x y H Q → wpAny (model X.prog X.w) X.A (call g [u, v]) (EP X pins σ Q) X.xe s) : CallR X g (RL F (b2 f)) := by
  intro pins s σ H xs us Q I r q
  obtain ⟨μ, M, vs, m, rv, q⟩ := q
  cases rv with
  | nil => exact q.elim
  | cons r1 rr => cases rr with
    | nil => exact q.elim
    | cons r2 rr => cases rr with
      | cons _ _ => exact q.elim
      | nil =>
        obtain ⟨u, v, rfl, ru, rv⟩ := r.two
        exact h pins s σ H _ _ u v Q I ru rv ⟨μ, M, _, _, m, r1, r2, q⟩
theorem seqOf_ok {α : Type} {K : PySem.W.Frag} {b : Nat} {H : Hp} {μ : List Addr} {M : Mem} {v : PV} {V : L2.V} {f : List PV → Res α} {G : α → Mem → Prop} {E : Nat → List PV → Mem → Prop} (m : RM K b H μ M) (r : RV K H μ v V) (h : Ok (opt (seqOf M v) .no f) G E) :
    ∃ a xs vs, V = .ref a ∧ RVs K H μ xs vs ∧ Ok (f xs) G E ∧ ((SqL K H a vs ∧ ∃ i, v = .ref i ∧ lstAt M i = some xs) ∨ (∃ k, v = .tup k xs ∧ TupAt k H a vs)) := by
  obtain ⟨xs, e, hf⟩ := opt_ok h
  cases r with
  | tup s l => cases e; exact ⟨_, _, _, rfl, l, hf, .inr ⟨_, rfl, s⟩⟩
  | @ref i a e2 =>
    have e : lstAt M i = some xs := e
    obtain ⟨vs, h1, h2⟩ := lstAt_sq m e2 e
    exact ⟨_, _, _, rfl, h2, hf, .inl ⟨h1, i, rfl, e⟩⟩
  | _ => cases e
theorem lstOf_ok {α : Type} {K : PySem.W.Frag} {b : Nat} {H : Hp} {μ : List Addr} {M : Mem} {v : PV} {V : L2.V} {f : List PV → Res α} {G : α → Mem → Prop} {E : Nat → List PV → Mem → Prop} (m : RM K b H μ M) (r : RV K H μ v V) (h : Ok (opt (lstOf M v) .no f) G E) :
    ∃ a xs vs, V = .ref a ∧ RVs K H μ xs vs ∧ Ok (f xs) G E ∧ SqL K H a vs := by
  obtain ⟨xs, e, hf⟩ := opt_ok h
  cases r with
  | @ref i a e2 =>
    have e : lstAt M i = some xs := e
    obtain ⟨vs, h1, h2⟩ := lstAt_sq m e2 e
    exact ⟨_, _, _, rfl, h2, hf, h1⟩
  | _ => cases e
theorem ints_ok {l : List PV} {is : List Int} (h : Ev.intsOf l = some is) : l = is.map PV.int := by
  induction l generalizing is with
  | nil => cases h; rfl
  | cons v r ih =>
    have h : v.onI none (fun i => opt (Ev.intsOf r) none fun is => some (i :: is)) = some is := h
    cases v with
    | int i =>
      obtain ⟨js, e, h⟩ := opt_some' (show opt (Ev.intsOf r) none (fun is => some (i :: is)) = some is from h)
      cases h
      rw [ih e]; rfl
    | _ => cases h
theorem bools_ok {l : List PV} {is : List Bool} (h : bools l = some is) : l = is.map PV.bl := by
  induction l generalizing is with
  | nil => cases h; rfl
  | cons v r ih =>
    have h : v.onB none (fun i => opt (bools r) none fun is => some (i :: is)) = some is := h
    cases v with
    | bl i =>
      obtain ⟨js, e, h⟩ := opt_some' (show opt (bools r) none (fun is => some (i :: is)) = some is from h)
      cases h
      rw [ih e]; rfl
    | _ => cases h
theorem RVs.ints {K : PySem.W.Frag} {H : Hp} {μ : List Addr} {is : List Int} {vs : List V} (h : RVs K H μ (is.map PV.int) vs) : vs = is.map V.int := by
  induction is generalizing vs with
  | nil => cases h; rfl
  | cons i is ih => cases h with
    | cons r rr => cases r; rw [ih rr]; rfl
theorem RVs.bools {K : PySem.W.Frag} {H : Hp} {μ : List Addr} {is : List Bool} {vs : List V} (h : RVs K H μ (is.map PV.bl) vs) : vs = is.map V.bl := by
  induction is generalizing vs with
  | nil => cases h; rfl
  | cons i is ih => cases h with
    | cons r rr => cases r; rw [ih rr]; rfl
theorem RVs.ofInts {K : PySem.W.Frag} {H : Hp} {μ : List Addr} : ∀ is : List Int, RVs K H μ (is.map PV.int) (is.map V.int)
  | [] => .nil
  | i :: is => .cons (.int i) (RVs.ofInts is)
theorem allB_eq (bs : List Bool) : bs.all id = allB bs := by
  induction bs with
  | nil => rfl
  | cons k bs ih => show (k && bs.all id) = yes k (allB bs) false; rw [ih, yes_and]
theorem anyB_eq (bs : List Bool) : bs.any id = anyB bs := by
  induction bs with
  | nil => rfl
  | cons k bs ih => show (k || bs.any id) = yes k true (anyB bs); rw [ih, yes_or]
theorem sumI_eq (bs : List Int) : bs.sum = sumI bs := by
  induction bs with
  | nil => rfl
  | cons k bs ih => show _ = k + sumI bs; rw [← ih]; exact List.sum_cons
/-! ### one by one -/
theorem c_len (hK : F.K = X.K) : CallR X (.builtin "len") (RL F (b1 biLen)) := one_arg fun pins s σ H x u Q I rx q => by
  obtain ⟨μ, M, v, m, r, q⟩ := q
  cases r with
  | str s1 t1 =>
    have q : F.Gd H μ M Q (.int (.ofNat (len s1))) M := q
    rw [len_eq] at q
    exact call_len pins s σ H _ _ Q I (.cons rx .nil) ⟨_, s1.length, rfl, ⟨t1.2, rfl⟩, q _ H μ .refl m (.int _)⟩
  | @tup f p xs vs st l =>
    have q : F.Gd H μ M Q (.int (.ofNat (len xs))) M := q
    rw [len_eq, l.length] at q
    exact call_len pins s σ H _ _ Q I (.cons rx .nil) ⟨_, vs.length, rfl, .inr ⟨vs, hK ▸ st.sq, rfl⟩, q _ H μ .refl m (.int _)⟩
  | @ref i p e =>
    obtain ⟨ob, hM, ro⟩ := m.at e
    have q : Ok (opt (nth M i) .no fun o => opt o.items (opt o.dict .no fun d => Res.ok (PV.int (.ofNat (len d.2))) M) fun xs => Res.ok (PV.int (.ofNat (len xs))) M) (F.Gd H μ M Q) (fun _ _ _ => False) := q
    rw [nth_eq, hM] at q
    cases ro with
    | box _ _ => first | (cases e; done) | (cases e1; done) | (cases h; done) | (cases hk; done) | (cases q; done) | (exact False.elim q) | (exact False.elim h)
    | @lst xs vs h1 h2 =>
      have q : F.Gd H μ M Q (.int (.ofNat (len xs))) M := q
      rw [len_eq, h2.length] at q
      exact call_len pins s σ H _ _ Q I (.cons rx .nil) ⟨_, vs.length, rfl, .inl ⟨vs, hK ▸ .of h1, rfl⟩, q _ H μ .refl m (.int _)⟩
    | @ro xs vs h1 h2 =>
      have q : F.Gd H μ M Q (.int (.ofNat (len xs))) M := q
      rw [len_eq, h2.length] at q
      exact call_len pins s σ H _ _ Q I (.cons rx .nil) ⟨_, vs.length, rfl, .inl ⟨vs, hK ▸ h1.sq, rfl⟩, q _ H μ .refl m (.int _)⟩
    | @dk kvs mm h1 h2 =>
      have q : F.Gd H μ M Q (.int (.ofNat (len kvs))) M := q
      rw [len_eq, h2.length] at q
      exact call_lenD pins s σ H _ _ Q I (.cons rx .nil) ⟨p, mm, rfl, h1, q _ H μ .refl m (.int _)⟩
    | @dt kvs mm h1 h2 =>
      have q : F.Gd H μ M Q (.int (.ofNat (len kvs))) M := q
      rw [len_eq, h2.length] at q
      exact call_len_dT pins s σ H _ _ Q I (.cons rx .nil) ⟨p, mm, rfl, h1, q _ H μ .refl m (.int _)⟩
  | _ => exact q.elim
theorem c_abs : CallR X (.builtin "abs") (RL F (b1 biAbs)) := one_arg fun pins s σ H x u Q I rx q => by
  obtain ⟨μ, M, v, m, r, q⟩ := q
  obtain ⟨i, rfl, rfl, q⟩ := onI_ok r q
  refine call_abs pins s σ H _ _ Q I (.cons rx .nil) ⟨i, rfl, ?_⟩
  have e : (if i < 0 then -i else i) = Int.ofNat i.natAbs := by
    show _ = ((i.natAbs : Nat) : Int)
    split <;> omega
  rw [e]
  exact q _ H μ .refl m (.int _)
theorem c_max2 (hc : X.calm = true) : CallR X (.builtin "max") (RL F (b2 biMax2)) := two_args fun pins s σ H x y u v Q I rx ry q => by
  obtain ⟨μ, M, a, c, m, r1, r2, q⟩ := q
  obtain ⟨i, rfl, rfl, q⟩ := onI_ok r1 q
  obtain ⟨j, rfl, rfl, q⟩ := onI_ok r2 q
  refine call_max2 hc pins s σ H _ _ Q I (.cons rx (.cons ry .nil)) ⟨i, j, rfl, ?_⟩
  have e : (if j > i then j else i) = yes (intLt i j) j i := by
    rw [intLt_iff]
    by_cases h : i < j
    · rw [decide_eq_true h, if_pos h]; rfl
    · rw [decide_eq_false h, if_neg h]; rfl
  rw [e]
  exact q _ H μ .refl m (.int _)
theorem c_min2 (hc : X.calm = true) : CallR X (.builtin "min") (RL F (b2 biMin2)) := two_args fun pins s σ H x y u v Q I rx ry q => by
  obtain ⟨μ, M, a, c, m, r1, r2, q⟩ := q
  obtain ⟨i, rfl, rfl, q⟩ := onI_ok r1 q
  obtain ⟨j, rfl, rfl, q⟩ := onI_ok r2 q
  refine call_min2 hc pins s σ H _ _ Q I (.cons rx (.cons ry .nil)) ⟨i, j, rfl, ?_⟩
  have e : (if j < i then j else i) = yes (intLt j i) j i := by
    rw [intLt_iff]
    by_cases h : j < i
    · rw [decide_eq_true h, if_pos h]; rfl
    · rw [decide_eq_false h, if_neg h]; rfl
  rw [e]
  exact q _ H μ .refl m (.int _)
theorem c_int1 : CallR X (.type "int") (RL F (b1 biInt)) := one_arg fun pins s σ H x u Q I rx q => by
  obtain ⟨μ, M, v, m, r, q⟩ := q
  cases r with
  | bl k =>
    have q : F.Gd H μ M Q (.int (Ev.b2i k)) M := q
    refine call_int1 pins s σ H _ _ Q I (.cons rx .nil) (.inr ⟨k, rfl, ?_⟩)
    rw [← b2i_eq]
    exact q _ H μ .refl m (.int _)
  | int i => exact call_int1 pins s σ H _ _ Q I (.cons rx .nil) (.inl ⟨i, rfl, q _ H μ .refl m (.int _)⟩)
  | str s1 t1 =>
    match s1, q with
    | [c], q =>
      obtain ⟨n, e, q⟩ := opt_ok (show Ok (opt (sgn c) .no fun n => Res.ok (PV.int (.ofNat n)) M) _ _ from q)
      unfold sgn at e
      obtain ⟨e1, e⟩ := yes_some' e
      obtain ⟨e2, e⟩ := yes_some' e
      rw [natBle] at e1 e2
      have e : c - 48 = n := Option.some.inj e
      subst e
      have dig : ∀ k : Nat, k < 10 → PySem.intText? (txt [48 + k]) = some (k : Int) := by decide +kernel
      refine call_int_str pins s σ H _ _ Q I (.cons rx .nil) ⟨txt [c], ((c - 48 : Nat) : Int), rfl, ?_, by show 1 ≤ 640; decide, q _ H μ .refl m (.int _)⟩
      have := dig (c - 48) (by omega)
      rw [show 48 + (c - 48) = c by omega] at this
      exact this
    | [], q => exact q.elim
    | _ :: _ :: _, q => exact q.elim
  | _ => exact q.elim
/-- tuple(a list), the new record known -/
theorem call_tupleZ {pins : List (Addr × PySem.Obj)} {s : Shared} {σ : L2.St} {H : Hp} {p : Addr} {ys : List V} {Q : VK} (I : Inv X pins σ H s) (hs : SqL X.K H p ys) (q : ∀ (l : Addr) (o : PySem.Obj), H l = none → o.dict = none → Q (.ref l) (upd H l (.frz o (.tup ys)))) :
    wpAny (model X.prog X.w) X.A (call (.type "tuple") [.ref p]) (EP X pins σ Q) X.xe s := by
  obtain ⟨its, rv, pl, hz⟩ := I.list hs
  refine call_tuple_list pl.isList (fun h' hk => ?_) (by rw [List.size_toArray, ← rv.length]; exact hz)
  have I1 : Inv X pins σ H { s with heap := h' } := I.kept (t' := s.toks) hk
  have hg : (h'.push { cls := .type "tuple", data := .seq its.toArray }).get? h'.objs.size = some { cls := .type "tuple", data := .seq its.toArray } := Heap.get?_push_size _ rfl
  exact ⟨.ref h'.objs.size, _, I1.laid (t' := s.toks) (o := .frz { cls := .type "tuple", data := .seq its.toArray } (.tup ys)) (fun _ _ e => Heap.get?_push_of_some _ e) (Nat.le_refl _) ⟨hg, hz, its, rv, ⟨_, hg, rfl, _, rfl⟩⟩, rfl, q _ _ (I1.hok.fresh (Nat.le_refl _)) rfl⟩
theorem tupZ_ok {H : Hp} {μ : List Addr} {M : Mem} {p : Addr} {o : PySem.Obj} {xs : List PV} {vs : List V} {Q : VK} (m : F.RM H μ M) (hp : H p = none) (hd : o.dict = none) (r : RVs F.K H μ xs vs) (q : F.Gd H μ M Q (.tup true xs) M) : Q (.ref p) (upd H p (.frz o (.tup vs))) := by
  have k := keepNew (o := .frz o (.tup vs)) hp
  exact q _ _ μ (Ext.same k) (m.same k) (.tup (f := true) ⟨o, hd, upd_same⟩ (r.ext (Ext.same (b := F.c.b) (M := M) k)))
theorem c_tuple (hK : F.K = X.K) (f : Bool) : CallR X (.type "tuple") (RL F (b1 (biTuple f))) := one_arg fun pins s σ H x u Q I rx q => by
  obtain ⟨μ, M, v, m, r, q⟩ := q
  cases r with
  | @tup k a xs vs st l => exact call_tuple_of pins s σ H _ _ Q I (.cons rx .nil) ⟨a, vs, rfl, .inr ⟨hK ▸ st.sq, q _ H μ .refl m (.tup st l)⟩⟩
  | @ref i a e =>
    obtain ⟨xs, e1, q⟩ := opt_ok (show Ok (opt (lstAt M i) .no fun l => Res.ok (PV.tup f l) M) _ _ from q)
    obtain ⟨vs, h1, h2⟩ := lstAt_sq m e e1
    cases f with
    | false => exact call_tuple_of pins s σ H _ _ Q I (.cons rx .nil) ⟨a, vs, rfl, .inl ⟨hK ▸ h1, fun l hl => tup_ok m hl h2 q⟩⟩
    | true => cases rx; exact call_tupleZ I (hK ▸ h1) fun l o hl hd => tupZ_ok m hl hd h2 q
  | _ => exact q.elim
theorem c_all (hK : F.K = X.K) (hc : X.calm = true) : CallR X (.builtin "all") (RL F (b1 biAll)) := one_arg fun pins s σ H x u Q I rx q => by
  obtain ⟨μ, M, v, m, r, q⟩ := q
  obtain ⟨a, xs, vs, rfl, rl, q, hs⟩ := lstOf_ok m r q
  obtain ⟨bs, e, q2⟩ := opt_ok q
  have e := bools_ok e
  subst e
  have e := rl.bools
  subst e
  refine cr_all hc pins s σ H _ _ Q I (.cons rx .nil) ⟨a, bs, rfl, hK ▸ hs, ?_⟩
  have e := allB_eq bs
  rw [e]
  exact q2 _ H μ .refl m (.bl _)
theorem c_any (hK : F.K = X.K) (hc : X.calm = true) : CallR X (.builtin "any") (RL F (b1 biAny)) := one_arg fun pins s σ H x u Q I rx q => by
  obtain ⟨μ, M, v, m, r, q⟩ := q
  obtain ⟨a, xs, vs, rfl, rl, q, hs⟩ := lstOf_ok m r q
  obtain ⟨bs, e, q2⟩ := opt_ok q
  have e := bools_ok e
  subst e
  have e := rl.bools
  subst e
  refine cr_any hc pins s σ H _ _ Q I (.cons rx .nil) ⟨a, bs, rfl, hK ▸ hs, ?_⟩
  have e := anyB_eq bs
  rw [e]
  exact q2 _ H μ .refl m (.bl _)
theorem c_sum (hK : F.K = X.K) (hc : X.calm = true) : CallR X (.builtin "sum") (RL F (b1 biSum)) := one_arg fun pins s σ H x u Q I rx q => by
  obtain ⟨μ, M, v, m, r, q⟩ := q
  obtain ⟨a, xs, vs, rfl, rl, q, hs⟩ := lstOf_ok m r q
  obtain ⟨bs, e, q2⟩ := opt_ok q
  have e := ints_ok e
  subst e
  have e := rl.ints
  subst e
  refine cr_sum hc pins s σ H _ _ Q I (.cons rx .nil) ⟨a, bs, rfl, hK ▸ hs, ?_⟩
  have e := sumI_eq bs
  rw [e]
  exact q2 _ H μ .refl m (.int _)
theorem maxI_spec : ∀ (r : List Int) (a : Int), (maxI r a = a ∨ maxI r a ∈ r) ∧ a ≤ maxI r a ∧ ∀ y ∈ r, y ≤ maxI r a
  | [], a => ⟨.inl rfl, Int.le_refl _, fun _ h => by simp at h⟩
  | i :: r, a => by
    obtain ⟨h1, h2, h3⟩ := maxI_spec r (yes (intLt a i) i a)
    have e : maxI (i :: r) a = maxI r (yes (intLt a i) i a) := rfl
    rw [e]
    have c : (yes (intLt a i) i a = i ∧ a < i) ∨ (yes (intLt a i) i a = a ∧ i ≤ a) := by
      rw [intLt_iff]
      by_cases h : a < i
      · rw [decide_eq_true h]; exact .inl ⟨rfl, h⟩
      · rw [decide_eq_false h]; exact .inr ⟨rfl, by omega⟩
    rcases c with ⟨e2, c⟩ | ⟨e2, c⟩ <;> rw [e2] at h1 h2 h3 ⊢ <;> refine ⟨?_, by omega, fun y hy => ?_⟩
    · rcases h1 with h1 | h1
      · exact .inr (by rw [h1]; exact List.mem_cons_self)
      · exact .inr (List.mem_cons_of_mem _ h1)
    · rcases List.mem_cons.mp hy with rfl | hy
      · exact h2
      · exact h3 y hy
    · rcases h1 with h1 | h1
      · exact .inl h1
      · exact .inr (List.mem_cons_of_mem _ h1)
    · rcases List.mem_cons.mp hy with rfl | hy
      · omega
      · exact h3 y hy
theorem minI_spec : ∀ (r : List Int) (a : Int), (minI r a = a ∨ minI r a ∈ r) ∧ minI r a ≤ a ∧ ∀ y ∈ r, minI r a ≤ y
  | [], a => ⟨.inl rfl, Int.le_refl _, fun _ h => by simp at h⟩
  | i :: r, a => by
    obtain ⟨h1, h2, h3⟩ := minI_spec r (yes (intLt i a) i a)
    have e : minI (i :: r) a = minI r (yes (intLt i a) i a) := rfl
    rw [e]
    have c : (yes (intLt i a) i a = i ∧ i < a) ∨ (yes (intLt i a) i a = a ∧ a ≤ i) := by
      rw [intLt_iff]
      by_cases h : i < a
      · rw [decide_eq_true h]; exact .inl ⟨rfl, h⟩
      · rw [decide_eq_false h]; exact .inr ⟨rfl, by omega⟩
    rcases c with ⟨e2, c⟩ | ⟨e2, c⟩ <;> rw [e2] at h1 h2 h3 ⊢ <;> refine ⟨?_, by omega, fun y hy => ?_⟩
    · rcases h1 with h1 | h1
      · exact .inr (by rw [h1]; exact List.mem_cons_self)
      · exact .inr (List.mem_cons_of_mem _ h1)
    · rcases List.mem_cons.mp hy with rfl | hy
      · exact h2
      · exact h3 y hy
    · rcases h1 with h1 | h1
      · exact .inl h1
      · exact .inr (List.mem_cons_of_mem _ h1)
    · rcases List.mem_cons.mp hy with rfl | hy
      · omega
      · exact h3 y hy
/-- the greatest is one -/
theorem max_uniq {l : List Int} {a b : Int} (h1 : a ∈ l) (h2 : ∀ y ∈ l, y ≤ a) (h3 : b ∈ l) (h4 : ∀ y ∈ l, y ≤ b) : a = b := by
  have := h2 b h3
  have := h4 a h1
  omega
theorem min_uniq {l : List Int} {a b : Int} (h1 : a ∈ l) (h2 : ∀ y ∈ l, a ≤ y) (h3 : b ∈ l) (h4 : ∀ y ∈ l, b ≤ y) : a = b := by
  have := h2 b h3
  have := h4 a h1
  omega
theorem vals_reads {h : Heap} : ∀ {ns : List Int} {us : List Value}, Vals (ns.map V.int) us → ReadsAll h us (ns.map PyData.int) []
  | [], _, .nil => .nil
  | n :: ns, _, .cons r rr => by
    obtain ⟨t, rfl⟩ := r
    exact .cons (as := []) (bs := []) (.int n t) (vals_reads rr)
theorem maxOf_eq (r : List Int) (i : Int) : PySem.W.maxOf i r = maxI r i := by
  induction r generalizing i with
  | nil => rfl
  | cons y r ih =>
    show PySem.W.maxOf (if decide (i < y) = true then y else i) r = maxI r (yes (intLt i y) y i)
    rw [ih, intLt_iff]
    cases decide (i < y) <;> rfl
theorem minOf_eq (r : List Int) (i : Int) : PySem.W.minOf i r = minI r i := by
  induction r generalizing i with
  | nil => rfl
  | cons y r ih =>
    show PySem.W.minOf (if decide (y < i) = true then y else i) r = minI r (yes (intLt y i) y i)
    rw [ih, intLt_iff]
    cases decide (y < i) <;> rfl
theorem c_max1 (hK : F.K = X.K) (hc : X.calm = true) (hu : X.A.units + 1 < cLine) : CallR X (.builtin "max") (RL F (b1 biMax)) := one_arg fun pins s σ H x u Q I rx q => by
  obtain ⟨μ, M, v, m, r, q⟩ := q
  obtain ⟨a, xs, vs, rfl, rl, q, hs⟩ := seqOf_ok m r q
  obtain ⟨ns, e, q2⟩ := opt_ok q
  have e := ints_ok e
  subst e
  have e := rl.ints
  subst e
  cases ns with
  | nil => exact q2.elim
  | cons i is =>
    have q : F.Gd H μ M Q (.int (maxI is i)) M := q2
    have q := q _ H μ .refl m (.int _)
    obtain ⟨s1, s2, s3⟩ := maxI_spec is i
    rcases hs with ⟨hs, _⟩ | ⟨k, _, hs⟩
    · refine cr_max hc pins s σ H _ _ Q I (.cons rx .nil) ⟨a, i :: is, rfl, hK ▸ hs, by simp, fun z h1 h2 => ?_⟩
      have e : z = maxI is i := max_uniq (l := i :: is) h1 h2 (by rcases s1 with s1 | s1; rw [s1]; exact List.mem_cons_self; exact List.mem_cons_of_mem _ s1) fun y hy => by
        rcases List.mem_cons.mp hy with rfl | hy
        · exact s2
        · exact s3 y hy
      rw [e]; exact q
    · cases rx
      obtain ⟨its, rv, p, _⟩ := I.tuple hs.sq
      refine PySem.W.max_tuple_datum (α := Int) (x := i) (xs := is) (I.ok.hd hc) (show s.heap.IsTuple a its.toArray from p) ⟨[], vals_reads (h := s.heap) (ns := i :: is) rv⟩ (by show X.A.units + 1 + 0 < cLine; omega) fun k w h' tk e hd hk => ?_
      obtain ⟨as, hr⟩ := hd
      rw [maxOf_eq] at hr
      have hr : Reads h' w (.int (maxI is i)) as := hr
      cases hr with
      | int _ t => exact ⟨.int (maxI is i), H, I.kept hk, ⟨t, rfl⟩, q⟩
theorem c_min1 (hK : F.K = X.K) (hc : X.calm = true) (hu : X.A.units + 1 < cLine) : CallR X (.builtin "min") (RL F (b1 biMin)) := one_arg fun pins s σ H x u Q I rx q => by
  obtain ⟨μ, M, v, m, r, q⟩ := q
  obtain ⟨a, xs, vs, rfl, rl, q, hs⟩ := seqOf_ok m r q
  obtain ⟨ns, e, q2⟩ := opt_ok q
  have e := ints_ok e
  subst e
  have e := rl.ints
  subst e
  cases ns with
  | nil => exact q2.elim
  | cons i is =>
    have q : F.Gd H μ M Q (.int (minI is i)) M := q2
    have q := q _ H μ .refl m (.int _)
    obtain ⟨s1, s2, s3⟩ := minI_spec is i
    rcases hs with ⟨hs, _⟩ | ⟨k, _, hs⟩
    · refine cr_min hc pins s σ H _ _ Q I (.cons rx .nil) ⟨a, i :: is, rfl, hK ▸ hs, by simp, fun z h1 h2 => ?_⟩
      have e : z = minI is i := min_uniq (l := i :: is) h1 h2 (by rcases s1 with s1 | s1; rw [s1]; exact List.mem_cons_self; exact List.mem_cons_of_mem _ s1) fun y hy => by
        rcases List.mem_cons.mp hy with rfl | hy
        · exact s2
        · exact s3 y hy
      rw [e]; exact q
    · cases rx
      obtain ⟨its, rv, p, _⟩ := I.tuple hs.sq
      refine PySem.W.min_tuple_datum (α := Int) (x := i) (xs := is) (I.ok.hd hc) (show s.heap.IsTuple a its.toArray from p) ⟨[], vals_reads (h := s.heap) (ns := i :: is) rv⟩ (by show X.A.units + 1 + 0 < cLine; omega) fun k w h' tk e hd hk => ?_
      obtain ⟨as, hr⟩ := hd
      rw [minOf_eq] at hr
      have hr : Reads h' w (.int (minI is i)) as := hr
      cases hr with
      | int _ t => exact ⟨.int (minI is i), H, I.kept hk, ⟨t, rfl⟩, q⟩
end
end Ev

set_option Elab.async false
set_option linter.all false
set_option maxRecDepth 100000
set_option maxHeartbeats 1000000
/-! Sj5: list, ranges, isinstance, sorted, dict, displays. -/
namespace Ev
open PySem PySem.Spec PyProof.Rows L2
section
variable {X : Cx} {F : Fr} {pos : Pos}
/-! ### list(x) -/
theorem walk_ok {α : Type} {K : PySem.W.Frag} {b : Nat} {H : Hp} {μ : List Addr} {M : Mem} {v : PV} {V : L2.V} {f : List PV → Res α} {G : α → Mem → Prop} {E : Nat → List PV → Mem → Prop} (m : RM K b H μ M) (r : RV K H μ v V) (h : Ok (opt (walk M v) .no f) G E) :
    ∃ a xs, V = .ref a ∧ Ok (f xs) G E ∧ ((∃ vs, (SqL K H a vs ∨ SqT K H a vs) ∧ RVs K H μ xs vs) ∨ (∃ kvs mm, H a = some (.dK mm) ∧ RD K H μ kvs mm ∧ xs = kvs.map (·.1)) ∨ (∃ kvs mm, H a = some (.dT mm) ∧ RT K H μ kvs mm ∧ xs = kvs.map (·.1))) := by
  obtain ⟨xs, e, hf⟩ := opt_ok h
  cases r with
  | tup s l => cases e; exact ⟨_, _, rfl, hf, .inl ⟨_, .inr s.sq, l⟩⟩
  | @ref i a e2 =>
    have e : opt (nth M i) none (fun o => opt o.items (opt o.dict none fun d => some (mapL (fun p => p.1) d.2)) some) = some xs := e
    obtain ⟨o, ho, ro⟩ := m.at e2
    rw [nth_eq, ho] at e
    cases ro with
    | box _ _ => first | (cases e; done) | (cases e1; done) | (cases h; done) | (cases hk; done) | (cases q; done) | (exact False.elim q) | (exact False.elim h)
    | lst h1 h2 => cases e; exact ⟨_, _, rfl, hf, .inl ⟨_, .inl (.of h1), h2⟩⟩
    | ro h1 h2 => cases e; exact ⟨_, _, rfl, hf, .inl ⟨_, .inl h1.sq, h2⟩⟩
    | @dk kvs mm h1 h2 =>
      have e : some (mapL (fun p => p.1) kvs) = some xs := e
      rw [mapL_eq] at e
      exact ⟨_, _, rfl, hf, .inr (.inl ⟨kvs, mm, h1, h2, (Option.some.inj e).symm⟩)⟩
    | @dt kvs mm h1 h2 =>
      have e : some (mapL (fun p => p.1) kvs) = some xs := e
      rw [mapL_eq] at e
      exact ⟨_, _, rfl, hf, .inr (.inr ⟨kvs, mm, h1, h2, (Option.some.inj e).symm⟩)⟩
  | _ => cases e
theorem RD.keysRel {K : PySem.W.Frag} {H : Hp} {μ : List Addr} {kvs : List (PV × PV)} {m : List (Key × V)} (r : RD K H μ kvs m) : RVs K H μ (kvs.map (·.1)) (m.map fun kv => kV kv.1) := by
  induction r with
  | nil => exact .nil
  | @cons k v q w l m h1 h2 _ _ ih =>
    refine .cons ?_ ih
    cases k with
    | int i => cases h1; exact .int i
    | str s => cases h1; exact .str s h2
    | _ => cases h1
theorem keysRel {K : PySem.W.Frag} {H : Hp} {μ : List Addr} : ∀ {ks : List PV} {q : List Key}, keysOf ks = some q → (∀ k ∈ ks, KeyTx k) → RVs K H μ ks (q.map kV)
  | [], _, h, _ => by cases h; exact .nil
  | x :: ks, q, h, t => by
    obtain ⟨k, l, e1, e2, rfl⟩ := keysOf_cons h
    refine .cons ?_ (keysRel e2 fun k hk => t k (List.mem_cons_of_mem _ hk))
    have tx := t x List.mem_cons_self
    cases x with
    | int i => cases e1; exact .int i
    | str s => cases e1; exact .str s tx
    | _ => cases e1
theorem RT.keysRel {K : PySem.W.Frag} {H : Hp} {μ : List Addr} {kvs : List (PV × PV)} {m : List (List Key × V)} (r : RT K H μ kvs m) : ∀ {bs : List Addr}, IsKeys H m bs → RVs K H μ (kvs.map (·.1)) (bs.map V.ref) := by
  induction r with
  | nil => intro bs h; cases h; exact .nil
  | @cons ks v q w l m h1 h2 _ _ ih =>
    intro bs h
    cases h with
    | cons a b => exact .cons (.tup (f := false) a (Ev.keysRel h1 h2)) (ih b)
theorem c_list (hK : F.K = X.K) (hc : X.calm = true) : CallR X (.type "list") (RL F (b1 biList)) := one_arg fun pins s σ H x u Q I rx q => by
  obtain ⟨μ, M, v, m, r, q⟩ := q
  obtain ⟨a, xs, rfl, q, hh⟩ := walk_ok m r q
  rcases hh with ⟨vs, hs, rl⟩ | ⟨kvs, mm, hs, rl, rfl⟩ | ⟨kvs, mm, hs, rl, rfl⟩
  · exact call_list_of pins s σ H _ _ Q I (.cons rx .nil) ⟨a, vs, rfl, hK ▸ hs, fun p hp => new_ok m hp (fun H' μ' x' e' => .lst e' (rl.ext x')) q⟩
  · exact call_listD hc pins s σ H _ _ Q I (.cons rx .nil) ⟨a, mm, rfl, .inl hs, fun p hp => new_ok m hp (fun H' μ' x' e' => .lst e' (rl.ext x').keysRel) q⟩
  · exact call_list_dT hc pins s σ H _ _ Q I (.cons rx .nil) ⟨a, mm, rfl, .inl hs, fun p bs hp hb => new_ok m hp (fun H' μ' x' e' => .lst e' ((rl.keysRel hb).ext x')) q⟩
/-! ### tuple(range(..)), list(range(..)) -/
theorem iota_rel {K : PySem.W.Frag} {H : Hp} {μ : List Addr} : ∀ (n : Nat) (lo : Int), RVs K H μ (iota n lo) ((List.range n).map fun i => V.int (lo + (i : Nat)))
  | 0, _ => .nil
  | n + 1, lo => by
    rw [List.range_succ_eq_map, List.map_cons, List.map_map]
    have ih := iota_rel (K := K) (H := H) (μ := μ) n (lo + 1)
    refine .cons (by simpa using RV.int lo) ?_
    have e : ((fun i : Nat => V.int (lo + (i : Int))) ∘ Nat.succ) = fun i : Nat => V.int (lo + 1 + (i : Int)) := by
      funext i
      show V.int (lo + ((i + 1 : Nat) : Int)) = _
      congr 1
      omega
    rw [e]
    exact ih
theorem iota_rg {K : PySem.W.Frag} {H : Hp} {μ : List Addr} (lo hi : Int) : RVs K H μ (iota (hi - lo).toNat lo) (rgV lo hi) := iota_rel _ _
theorem lenOk_le {n : Nat} (h : lenOk n = true) : n ≤ sizeLine := by
  have := natBle.mp (show Nat.ble n line = true from h)
  rw [line_eq] at this
  exact this
theorem sRng_ok {t : Bool} {lo : Int} {n : Nat} {M : Mem} {G : PV → Mem → Prop} {E : Nat → List PV → Mem → Prop} (q : Ok (match It.rng lo n with | .rng lo n => yes (lenOk n) (yes t (Res.ok (PV.tup false (iota n lo)) M) (new M (.lst (iota n lo)))) .no | .val _ => .no | .str _ => .no | .enum _ => .no | .zip _ _ => .no) G E) :
    n ≤ sizeLine ∧ Ok (yes t (Res.ok (PV.tup false (iota n lo)) M) (new M (.lst (iota n lo)))) G E := by
  obtain ⟨h, q⟩ := yes_ok (show Ok (yes (lenOk n) (yes t (Res.ok (PV.tup false (iota n lo)) M) (new M (.lst (iota n lo)))) .no) G E from q)
  exact ⟨lenOk_le h, q⟩
theorem toRg1 {x : Se} {t : Bool} {σ : L2.St} {H : Hp} {Q : VK} (h : tE F (sRng t (Ev.iRng1 x)) σ H Q) : tRg1 (tE F x) σ H fun a b H1 => RgOk a b ∧ ∀ q, H1 q = none → Q (.ref q) (upd H1 q (yes t (HO.tup (rgV a b)) (HO.lst (rgV a b)))) := by
  obtain ⟨μ, M, ρ, A, q⟩ := h
  refine ⟨μ, M, ρ, A, (Ok.bind.mp (Ok.bind.mp q)).mono (fun v M1 q V H1 μ1 x1 m1 r1 => ?_) fun _ _ _ q => q⟩
  cases v with
  | int j =>
    obtain ⟨rfl⟩ : V = L2.V.int j := by cases r1; rfl
    have q : Ok (yes (rngOk (.ofNat 0) j) (Res.ok (It.rng (.ofNat 0) j.toNat) M1) .no) (fun a M => Ok (match a with | .rng lo n => yes (lenOk n) (yes t (Res.ok (PV.tup false (iota n lo)) M) (new M (.lst (iota n lo)))) .no | .val _ => .no | .str _ => .no | .enum _ => .no | .zip _ _ => .no) (F.Gd H μ _ Q) (F.Ge H μ _ σ)) (F.Ge H μ _ σ) := q
    obtain ⟨hk, q⟩ := yes_ok q
    obtain ⟨hl, q⟩ := sRng_ok q
    obtain ⟨b1, b2, b3, b4⟩ := rngOk_iff hk
    have e0 : (j - 0).toNat = j.toNat := by rw [Int.sub_zero]
    have rl : RVs F.K H1 μ1 (iota j.toNat (.ofNat 0)) (rgV 0 j) := by have := iota_rg (K := F.K) (H := H1) (μ := μ1) 0 j; rw [e0] at this; exact this
    refine ⟨j, rfl, ⟨b1, b2, b3, b4, by rw [e0]; have := sizeLine_eq; omega⟩, fun p hp => ?_⟩
    cases t with
    | true => exact tup_ok m1 hp rl (fun V H2 μ2 x2 => q V H2 μ2 (x1.trans x2))
    | false => exact new_gd (E := F.Ge H μ M σ) x1 m1 hp (fun H' μ' x' e' => .lst e' (rl.ext x')) q
  | _ => exact q.elim
theorem toRg2 {x y : Se} {t : Bool} {σ : L2.St} {H : Hp} {Q : VK} (h : tE F (sRng t (Ev.iRng2 x y)) σ H Q) : tRg2 (tE F x) (tE F y) σ H fun a b H1 => RgOk a b ∧ ∀ q, H1 q = none → Q (.ref q) (upd H1 q (yes t (HO.tup (rgV a b)) (HO.lst (rgV a b)))) := by
  obtain ⟨μ, M, ρ, A, q⟩ := h
  refine ⟨μ, M, ρ, A, (Ok.bind.mp (Ok.bind.mp q)).mono (fun v M1 q V H1 μ1 x1 m1 r1 => ?_) fun _ _ _ q => q⟩
  refine ⟨μ1, M1, ρ, A.go x1 m1, (Ok.bind.mp q).mono (fun w M2 q W H2 μ2 x2 m2 r2 => ?_) fun _ _ _ q => q.step x1⟩
  cases v with
  | int i => cases w with
    | int j =>
      obtain ⟨rfl⟩ : V = L2.V.int i := by cases r1; rfl
      obtain ⟨rfl⟩ : W = L2.V.int j := by cases r2; rfl
      have q : Ok (yes (rngOk i j) (Res.ok (It.rng i (Int.sub j i).toNat) M2) .no) (fun a M => Ok (match a with | .rng lo n => yes (lenOk n) (yes t (Res.ok (PV.tup false (iota n lo)) M) (new M (.lst (iota n lo)))) .no | .val _ => .no | .str _ => .no | .enum _ => .no | .zip _ _ => .no) (F.Gd H μ _ Q) (F.Ge H μ _ σ)) (F.Ge H μ _ σ) := q
      obtain ⟨hk, q⟩ := yes_ok q
      obtain ⟨hl, q⟩ := sRng_ok q
      obtain ⟨b1, b2, b3, b4⟩ := rngOk_iff hk
      have rl : RVs F.K H2 μ2 (iota (Int.sub j i).toNat i) (rgV i j) := iota_rg i j
      have hl : (j - i).toNat ≤ sizeLine := hl
      refine ⟨i, j, rfl, rfl, ⟨b1, b2, b3, b4, by have := sizeLine_eq; omega⟩, fun p hp => ?_⟩
      cases t with
      | true => exact tup_ok m2 hp rl (fun V H3 μ3 x3 => q V H3 μ3 ((x1.trans x2).trans x3))
      | false => exact new_gd (E := F.Ge H μ M σ) (x1.trans x2) m2 hp (fun H' μ' x' e' => .lst e' (rl.ext x')) q
    | _ => exact q.elim
  | _ => exact q.elim
theorem e_rgL {e : Expr} {te : L2.St → Hp → (Int → Int → Hp → Prop) → Prop} {i : Si} {p : Pos} (hc : X.calm = true) (hg : Gl X "list") (hm : X.mg "list" = none) (he : PRg X e te) (na : starEach [e] X.env = (false, eval e X.env) :: starEach [] X.env)
    (im : ∀ σ H Q, tE F (sRng false i) σ H Q → te σ H fun a b H1 => RgOk a b ∧ ∀ q, H1 q = none → Q (.ref q) (upd H1 q (.lst (rgV a b)))) : PE X (.Call (.Name "list" p) [e] [] pos) (tE F (sRng false i)) := (pe_listRg hc hg hm he na).imp im
theorem e_rgT {e : Expr} {te : L2.St → Hp → (Int → Int → Hp → Prop) → Prop} {i : Si} {p : Pos} (hc : X.calm = true) (hg : Gl X "tuple") (hm : X.mg "tuple" = none) (he : PRg X e te) (na : starEach [e] X.env = (false, eval e X.env) :: starEach [] X.env)
    (im : ∀ σ H Q, tE F (sRng true i) σ H Q → te σ H fun a b H1 => RgOk a b ∧ ∀ q, H1 q = none → Q (.ref q) (upd H1 q (.tup (rgV a b)))) : PE X (.Call (.Name "tuple" p) [e] [] pos) (tE F (sRng true i)) := (pe_tupRg hc hg hm he na).imp im
/-! ### dict(pairs) -/
theorem RD.merge {K : PySem.W.Frag} {H : Hp} {μ : List Addr} {more : List (PV × PV)} {m : List (Key × V)} (r : RD K H μ more m) : ∀ {kvs : List (PV × PV)} {m0 : List (Key × V)}, RD K H μ kvs m0 → RD K H μ (putAll more kvs) (mergeK m0 m) := by
  induction r with
  | nil => exact fun h => h
  | @cons k v q w l m h1 h2 h3 t ih =>
    intro kvs m0 h
    show RD K H μ (putAll l (putIn k v kvs)) (mergeK (putK m0 q w) m)
    exact ih (h.put h1 h2 h3)
theorem pairs_rel {K : PySem.W.Frag} {H : Hp} {μ : List Addr} {l : List PV} {vs : List V} {kvs : List (PV × PV)} (r : RVs K H μ l vs) (h : pairs l = some kvs) (hk : keysOk false kvs = true) :
    ∃ ps m, vs = ps.map V.ref ∧ RD K H μ kvs m ∧ Paired (fun p kv => SqT K H p [kV kv.1, kv.2]) ps m := by
  induction l generalizing vs kvs with
  | nil => cases r; cases h; exact ⟨[], [], rfl, .nil, .nil⟩
  | cons v l ih =>
    cases r with
    | cons r rr =>
      cases r with
      | @tup _ a xs ws st rl =>
        have h : lc xs none (fun k ys => lc ys none fun w zs => lc zs (opt (pairs l) none fun q => some ((k, w) :: q)) fun _ _ => none) = some kvs := h
        match xs, ws, rl, h with
        | [k, w], [V1, W1], .cons rk (.cons rw .nil), h =>
          obtain ⟨q, e, h⟩ := opt_some' (show opt (pairs l) none (fun q => some ((k, w) :: q)) = some kvs from h)
          cases h
          have hk : yes (keyOk false k) (keysOk false q) false = true := hk
          rw [yes_and, Bool.and_eq_true] at hk
          obtain ⟨ps, m, rfl, rd, pr⟩ := ih rr e hk.2
          obtain ⟨qk, hq⟩ := keyOk_leaf hk.1
          obtain ⟨rfl, tk⟩ := rk.key hq
          exact ⟨a :: ps, (qk, W1) :: m, rfl, .cons hq tk rw rd, .cons st.sq pr⟩
        | [], _, _, h => cases h
        | [_], _, _, h => cases h
        | _ :: _ :: _ :: _, _, _, h => cases h
      | _ => cases h
theorem c_dict (hK : F.K = X.K) (hc : X.calm = true) : CallR X (.type "dict") (RL F (b1 biDict)) := one_arg fun pins s σ H x u Q I rx q => by
  obtain ⟨μ, M, v, m, r, q⟩ := q
  obtain ⟨a, xs, vs, rfl, rl, q, hs⟩ := lstOf_ok m r q
  obtain ⟨kvs, e, q⟩ := opt_ok q
  obtain ⟨hk, q⟩ := yes_ok q
  obtain ⟨ps, mm, rfl, rd, pr⟩ := pairs_rel rl e hk
  exact call_dictP hc pins s σ H _ _ Q I (.cons rx .nil) ⟨a, ps, mm, rfl, hK ▸ hs, hK ▸ pr, fun p hp => new_ok m hp (fun H' μ' x' e' => .dk e' (RD.merge (rd.ext x') .nil)) q⟩
end
end Ev

set_option Elab.async false
set_option linter.all false
set_option maxRecDepth 100000
set_option maxHeartbeats 1000000
/-! Sj6: displays of dicts; isinstance. -/
namespace Ev
open PySem PySem.Spec PyProof.Rows L2
def mergeT (kvs more : List (List Key × V)) : List (List Key × V) := more.foldl (fun acc kv => putK acc kv.1 kv.2) kvs
/-- {t: v, ..} with tuples as keys; the new dict stands empty while the pairs are made -/
def tDispT (trs : List (TE × TE)) : TE := fun σ H Q => ∀ p, H p = none → tPairs trs σ (upd H p (.dT [])) fun ps H2 => H2 p = some (.dT []) ∧ ∃ (bs : List Addr) (kvs : List (List Key × V)),
  Paired (fun b kv => H2 b = some (.tup (kv.1.map kV))) bs kvs ∧ ps = (bs.zip kvs).map (fun q => (V.ref q.1, q.2.2)) ∧ kvs.length ≤ 15 ∧ Q (.ref p) (upd H2 p (.dT (mergeT [] kvs)))
theorem carriesT {P : Program} {w : World} {H : Hp} {h : Heap} (ok : HOk P w H h) : ∀ {bs : List Addr} {kvs : List (List Key × V)} {ws : List (Value × Value)}, Paired (fun b kv => H b = some (.tup (kv.1.map kV))) bs kvs → VV ((bs.zip kvs).map (fun q => (V.ref q.1, q.2.2))) ws →
    ∃ rs, CarriesH (tupleKind (mixKind P w)) h ws rs ∧ KT H kvs rs
  | [], [], _, _, r => by cases r; exact ⟨[], trivial, .nil⟩
  | b :: bs, kv :: kvs, _, .cons e pr, r => by
    cases r with
    | @cons p q ps qs hh t =>
      obtain ⟨rs, c, k⟩ := carriesT ok pr t
      obtain ⟨q1, q2⟩ := q
      obtain ⟨h1, h2⟩ := hh
      cases (show q1 = Value.ref b from h1)
      exact ⟨(kv.1, b, q2) :: rs, ⟨rfl, rfl, key_of ok e, c⟩, .cons ⟨rfl, e, h2⟩ k⟩
theorem KT.merge {H : Hp} : ∀ {more : List (List Key × V)} {rs : List (List Key × Addr × Value)} {kvs : List (List Key × V)} {xs : List (List Key × Addr × Value)}, KT H more rs → KT H kvs xs → KT H (mergeT kvs more) (storedAllH xs rs) := by
  intro more rs kvs xs r
  induction r generalizing kvs xs with
  | nil => exact fun q => q
  | @cons p q ps qs h t ih =>
    intro r0
    obtain ⟨h1, h2, h3⟩ := h
    have e : KT H (putK kvs p.1 p.2) (storedH xs q.1 q.2.1 q.2.2) := by
      have := r0.put p.1 h2 h3
      rw [← h1]; exact this
    exact ih e
theorem length_mergeT : ∀ (more kvs : List (List Key × V)), (mergeT kvs more).length ≤ kvs.length + more.length
  | [], kvs => Nat.le_refl _
  | p :: r, kvs => by
    have h1 := length_mergeT r (putK kvs p.1 p.2)
    have h2 := length_putK kvs p.1 p.2
    show (mergeT (putK kvs p.1 p.2) r).length ≤ _
    rw [List.length_cons]; omega
section
variable {X : Cx} {F : Fr} {pos : Pos}
theorem pe_dispT {keys : List (Option Expr)} {values : List Expr} {trs : List (TE × TE)} (hu : X.A.units < cLine) (h : PPs X pos keys values trs) (hall : keys.all (·.isSome) = true) (hl : keys.length = values.length) (h0 : keys ≠ [])
    (h15 : keys.length ≤ 15) : PE X (.Dict keys values pos) (tDispT trs) := by
  refine ⟨fun pins s σ H Q I q => ?_⟩
  have hn := I.hok.fresh (Nat.le_refl s.heap.objs.size)
  have I1 := I.laid (a := s.heap.objs.size) (o := .dT []) (h' := s.heap.push { cls := .type "dict", data := .dict #[] }) (t' := s.toks) (fun _ _ q => Heap.get?_push_of_some _ q) (Nat.le_refl _) (dt_empty s.heap I.big)
  have hln := pairTrees_length keys values X.env pos hall hl
  have h0' : pairTrees keys values X.env pos ≠ [] := fun e => h0 (by rw [e] at hln; exact List.length_eq_zero_iff.mp hln.symm)
  rw [arm_eval_Dict, zip_pairTrees keys values X.env pos hall hl, dictDisplay_pairs _ h0' (by rw [hln]; omega)]
  refine wpAny_bind (wpAny_standAt (wpAny_bind (wpAny_subDictH (knd := tupleKind (mixKind X.prog X.w)) hu (by rw [hln]; exact h15) (thn (h.run pins _ σ _ _ I1 (q _ hn)) fun ws s2 ⟨ps, H2, I2, rel, e, bs, kvs, pr, ep, lk, q2⟩ => ?_))))
  subst ep
  obtain ⟨rs, c, rk⟩ := carriesT I2.hok pr rel
  obtain ⟨z, hd, vs0, r0, dd⟩ := dt_of I2.hok e
  cases r0
  refine ⟨rs, c, dd, fun h' tk dd' hs => wpAny_pure ⟨.ref s.heap.objs.size, _, ?_, rfl, q2⟩⟩
  have hz : (mergeT [] kvs).length ≤ sizeLine := by
    have h1 := length_mergeT kvs []
    rw [List.length_nil] at h1
    rw [sizeLine_eq]; omega
  obtain ⟨o, es, epk, g1, g2, g3, g4, g5, g6⟩ := dd'
  have kt := (KT.merge rk (.nil : KT H2 [] [])).keeps (H' := upd H2 s.heap.objs.size (.dT (mergeT [] kvs))) fun b ys hb => by rw [upd_ne (fun z => by rw [z, e] at hb; cases hb)]; exact hb
  exact d_write I2 (by rw [e]; exact True.intro) hs ⟨o, g1⟩ ⟨hz, hd, _, kt, o, es, epk, g1, g2, g3, g4, g6⟩
/-! ### the readings of displays -/
def tPs (F : Fr) (l : List (Se × Se)) : List (TE × TE) := l.map fun p => (tE F p.1, tE F p.2)
theorem toPairs {σ : L2.St} {H0 : Hp} {μ0 : List Addr} {M0 : Mem} : ∀ {l : List (Se × Se)} {H : Hp} {μ : List Addr} {M : Mem} {ρ : Rho} {G : List (PV × PV) → Mem → Prop} {Q : List (V × V) → Hp → Prop}, F.At σ H μ M ρ → F.Ext H0 μ0 M0 H μ M → Ok (pL l F.c ρ M) G (F.Ge H0 μ0 M0 σ) →
    (∀ ps M' H' μ' qs, G ps M' → F.Ext H0 μ0 M0 H' μ' M' → F.Ext H μ M H' μ' M' → F.RM H' μ' M' → RVs F.K H' μ' (ps.map (·.1)) (qs.map (·.1)) → RVs F.K H' μ' (ps.map (·.2)) (qs.map (·.2)) → Q qs H') → tPairs (tPs F l) σ H Q
  | [], H, μ, M, ρ, G, Q, A, x, q, h => h [] M H μ [] q x .refl A.m .nil .nil
  | p :: l, H, μ, M, ρ, G, Q, A, x, q, h => by
    have q : Ok ((p.1 F.c ρ M).bind fun k M1 => (p.2 F.c ρ M1).bind fun v M2 => (pL l F.c ρ M2).bind fun ps M3 => .ok ((k, v) :: ps) M3) G (F.Ge H0 μ0 M0 σ) := q
    refine ⟨μ, M, ρ, A, (Ok.bind.mp q).mono (fun k M1 q V1 H1 μ1 x1 m1 r1 => ?_) fun _ _ _ q => q.step x⟩
    refine ⟨μ1, M1, ρ, A.go x1 m1, (Ok.bind.mp q).mono (fun v M2 q V2 H2 μ2 x2 m2 r2 => ?_) fun _ _ _ q => q.step (x.trans x1)⟩
    refine toPairs ((A.go x1 m1).go x2 m2) ((x.trans x1).trans x2) (Ok.bind.mp q) fun ps M3 H3 μ3 qs g x3 x3' m3 r3 r4 => ?_
    exact h ((k, v) :: ps) M3 H3 μ3 ((V1, V2) :: qs) g x3 ((x1.trans x2).trans x3') m3 (.cons ((r1.ext x2).ext x3') r3) (.cons (r2.ext x3') r4)
theorem putAllE {more kvs : List (PV × PV)} {p : PV × PV} : putAll (p :: more) kvs = putAll more (putIn p.1 p.2 kvs) := rfl
theorem zipD {K : PySem.W.Frag} {H : Hp} {μ : List Addr} : ∀ {ps : List (PV × PV)} {qs : List (V × V)}, RVs K H μ (ps.map (·.1)) (qs.map (·.1)) → RVs K H μ (ps.map (·.2)) (qs.map (·.2)) → keysOk false ps = true → ∃ m : List (Key × V), qs = m.map (fun kv => (kV kv.1, kv.2)) ∧ RD K H μ ps m
  | [], [], _, _, _ => ⟨[], rfl, .nil⟩
  | [], _ :: _, h, _, _ => by cases h
  | _ :: _, [], h, _, _ => by cases h
  | p :: ps, q :: qs, .cons r1 t1, .cons r2 t2, hk => by
    have hk : yes (keyOk false p.1) (keysOk false ps) false = true := hk
    rw [yes_and, Bool.and_eq_true] at hk
    obtain ⟨m, rfl, rd⟩ := zipD t1 t2 hk.2
    obtain ⟨k, hq⟩ := keyOk_leaf hk.1
    obtain ⟨e, tk⟩ := r1.key hq
    exact ⟨(k, q.2) :: m, by rw [List.map_cons]; congr 1; exact Prod.ext e rfl, .cons hq tk r2 rd⟩
theorem zipT {K : PySem.W.Frag} {H : Hp} {μ : List Addr} : ∀ {ps : List (PV × PV)} {qs : List (V × V)}, RVs K H μ (ps.map (·.1)) (qs.map (·.1)) → RVs K H μ (ps.map (·.2)) (qs.map (·.2)) → keysOk true ps = true →
    ∃ (bs : List Addr) (m : List (List Key × V)), Paired (fun b kv => H b = some (.tup (kv.1.map kV))) bs m ∧ qs = (bs.zip m).map (fun q => (V.ref q.1, q.2.2)) ∧ RT K H μ ps m
  | [], [], _, _, _ => ⟨[], [], .nil, rfl, .nil⟩
  | [], _ :: _, h, _, _ => by cases h
  | _ :: _, [], h, _, _ => by cases h
  | p :: ps, q :: qs, .cons r1 t1, .cons r2 t2, hk => by
    have hk : yes (keyOk true p.1) (keysOk true ps) false = true := hk
    rw [yes_and, Bool.and_eq_true] at hk
    obtain ⟨bs, m, pr, rfl, rd⟩ := zipT t1 t2 hk.2
    obtain ⟨ks, k, e, hq⟩ := keyOk_tup hk.1
    obtain ⟨p1, p2⟩ := p
    obtain ⟨q1, q2⟩ := q
    dsimp only at e r1 r2
    subst e
    cases r1 with
    | @tup _ b _ ws s1 s2 =>
      obtain ⟨rfl, tk⟩ := s2.keys hq
      exact ⟨b :: bs, (k, q2) :: m, .cons s1 pr, rfl, .cons hq tk r2 rd⟩
theorem RT.merge {K : PySem.W.Frag} {H : Hp} {μ : List Addr} {more : List (PV × PV)} {m : List (List Key × V)} (r : RT K H μ more m) : ∀ {kvs : List (PV × PV)} {m0 : List (List Key × V)}, RT K H μ kvs m0 → RT K H μ (putAll more kvs) (mergeT m0 m) := by
  induction r with
  | nil => exact fun h => h
  | @cons k v q w l m h1 h2 h3 t ih =>
    intro kvs m0 h
    show RT K H μ (putAll l (putIn (.tup false k) v kvs)) (mergeT (putK m0 q w) m)
    exact ih (h.put h1 h2 h3)
theorem RD.len {K : PySem.W.Frag} {H : Hp} {μ : List Addr} {kvs : List (PV × PV)} {m : List (Key × V)} (r : RD K H μ kvs m) : kvs.length = m.length := r.length
/-- at the end of a display the dict at p is filled -/
theorem fill_gd {E : Nat → List PV → Mem → Prop} {σ : L2.St} {H H1 : Hp} {μ μ1 : List Addr} {M M1 : Mem} {p : Addr} {o o' : HO} {ob : Ev.Obj} {Q : VK} (m : F.RM H μ M) (np : H p = none) (x1 : F.Ext H μ M H1 μ1 M1) (m1 : F.RM H1 μ1 M1) (e : H1 p = some o) (w : Wr o) (f : Free μ1 M1 p)
    (r : (∀ f a vs, TupAt f H1 a vs → TupAt f (upd H1 p o') a vs) → RO F.K (upd H1 p o') μ1 p ob) (q : Ok (new M1 ob) (F.Gd H μ M Q) E) : Q (.ref p) (upd H1 p o') := by
  have q : F.Gd H μ M Q (.ref (len M1)) (app M1 [ob]) := q
  rw [len_eq, app_eq] at q
  have m2 : F.RM (upd H1 p o') μ1 M1 := m1.redo e w f
  have x2 : F.Ext H μ M (upd H1 p o') μ1 M1 := x1.redo np
  refine q _ _ _ (x2.adopt m2 m np) (m2.adopt f (r (tup_upd e w))) (.ref ?_)
  rw [← m2.len, List.getElem?_append_right (Nat.le_refl _), Nat.sub_self]
  rfl
theorem len_pL {c : Fx} {ρ : Rho} {E : Nat → List PV → Mem → Prop} : ∀ {l : List (Se × Se)} {M : Mem} {G : List (PV × PV) → Mem → Prop}, Ok (pL l c ρ M) G E → Ok (pL l c ρ M) (fun ps M' => ps.length = l.length ∧ G ps M') E
  | [], _, _, h => ⟨rfl, h⟩
  | p :: l, M, G, h => by
    have h : Ok ((p.1 c ρ M).bind fun k M1 => (p.2 c ρ M1).bind fun v M2 => (pL l c ρ M2).bind fun ps M3 => .ok ((k, v) :: ps) M3) G E := h
    show Ok ((p.1 c ρ M).bind fun k M1 => (p.2 c ρ M1).bind fun v M2 => (pL l c ρ M2).bind fun ps M3 => .ok ((k, v) :: ps) M3) _ E
    exact Ok.bind.mpr ((Ok.bind.mp h).mono (fun k M1 q => Ok.bind.mpr ((Ok.bind.mp q).mono (fun v M2 q => Ok.bind.mpr ((len_pL (Ok.bind.mp q)).mono (fun ps M3 q => ⟨congrArg Nat.succ q.1, q.2⟩) fun _ _ _ q => q)) fun _ _ _ q => q)) fun _ _ _ q => q)
theorem e_disp {keys : List (Option Expr)} {values : List Expr} {l : List (Se × Se)} {t : Bool} (hu : X.A.units < cLine) (h : PPs X pos keys values (tPs F l)) (hall : keys.all (·.isSome) = true) (hl : keys.length = values.length) (h0 : keys ≠ [])
    (h15 : keys.length ≤ 15) (hll : l.length ≤ 15) : PE X (.Dict keys values pos) (tE F (sDct t l)) := by
  cases t with
  | false =>
    refine (pe_disp h hall hl h0 h15).imp fun σ H Q q => ?_
    obtain ⟨μ, M, ρ, A, q⟩ := q
    intro p np
    have kp := keepNew (o := .dK []) np
    have x0 : F.Ext H μ M (upd H p (.dK [])) μ M := Ext.same kp
    have m0 : F.RM (upd H p (.dK [])) μ M := A.m.same kp
    refine toPairs (H0 := H) (μ0 := μ) (M0 := M) (A.go x0 m0) x0 (len_pL (Ok.bind.mp q)) fun ps M1 H1 μ1 qs g x1 x1' m1 r1 r2 => ?_
    obtain ⟨eq, q⟩ := g
    obtain ⟨hk, q⟩ := yes_ok q
    have f0 := free_new A.m np
    have e1 := x1'.keep p _ upd_same f0
    have f1 := x1'.free upd_same f0
    obtain ⟨mm, rfl, rd⟩ := zipD r1 r2 hk
    have hlen : mm.length ≤ 15 := by rw [← rd.length, eq]; exact hll
    exact ⟨e1, mm, rfl, hlen, fill_gd (E := F.Ge H μ M σ) (σ := σ) A.m np x1 m1 e1 wr_dK f1 (fun cg => .dk upd_same (RD.merge (rd.cong cg) .nil)) q⟩
  | true =>
    refine (pe_dispT hu h hall hl h0 h15).imp fun σ H Q q => ?_
    obtain ⟨μ, M, ρ, A, q⟩ := q
    intro p np
    have kp := keepNew (o := .dT []) np
    have x0 : F.Ext H μ M (upd H p (.dT [])) μ M := Ext.same kp
    have m0 : F.RM (upd H p (.dT [])) μ M := A.m.same kp
    refine toPairs (H0 := H) (μ0 := μ) (M0 := M) (A.go x0 m0) x0 (len_pL (Ok.bind.mp q)) fun ps M1 H1 μ1 qs g x1 x1' m1 r1 r2 => ?_
    obtain ⟨eq, q⟩ := g
    obtain ⟨hk, q⟩ := yes_ok q
    have f0 := free_new A.m np
    have e1 := x1'.keep p _ upd_same f0
    have f1 := x1'.free upd_same f0
    obtain ⟨bs, mm, pr, rfl, rd⟩ := zipT r1 r2 hk
    have hlen : mm.length ≤ 15 := by rw [← rd.length, eq]; exact hll
    exact ⟨e1, bs, mm, pr, rfl, hlen, fill_gd (E := F.Ge H μ M σ) (σ := σ) A.m np x1 m1 e1 wr_dT f1 (fun cg => .dt upd_same (RT.merge (rd.cong cg) .nil)) q⟩
/-! ### isinstance -/
def tyName : Ty → String | .tInt => "int" | .tBool => "bool" | .tStr => "str" | .tTup => "tuple" | .tLst => "list" | .tDct => "dict"
/-- the type's name of a value -/
def tyP (M : Mem) : PV → String
  | .non => "NoneType" | .bl _ => "bool" | .int _ => "int" | .str _ => "str" | .tup _ _ => "tuple" | .ref i => (match M[i]? with | some (.lst _) => "list" | some (.ro _) => "list" | _ => "dict") | .fn _ => "function"
theorem isTy_kit {K : PySem.W.Frag} {b : Nat} {H : Hp} {μ : List Addr} {M : Mem} {v : PV} {V : L2.V} (m : RM K b H μ M) (r : RV K H μ v V) (hs : seen M v = true) (t : Ty) : kitB (tyP M v) (tyName t) = some (isTy M v t) ∧ TyX K H V (.type (tyP M v)) := by
  have tab : ∀ t : Ty, kitB "NoneType" (tyName t) = some false ∧ kitB "bool" (tyName t) = some (match t with | .tBool => true | .tInt => true | _ => false) ∧ kitB "int" (tyName t) = some (match t with | .tInt => true | _ => false) ∧
      kitB "str" (tyName t) = some (match t with | .tStr => true | _ => false) ∧ kitB "tuple" (tyName t) = some (match t with | .tTup => true | _ => false) ∧ kitB "list" (tyName t) = some (match t with | .tLst => true | _ => false) ∧ kitB "dict" (tyName t) = some (match t with | .tDct => true | _ => false) := by
    intro t
    cases t <;> decide +kernel
  obtain ⟨t1, t2, t3, t4, t5, t6, t7⟩ := tab t
  cases r with
  | non => exact ⟨by show kitB "NoneType" _ = _; rw [t1]; cases t <;> rfl, .base .non⟩
  | bl k => exact ⟨by show kitB "bool" _ = _; rw [t2]; cases t <;> rfl, .base (.bl k)⟩
  | int i => exact ⟨by show kitB "int" _ = _; rw [t3]; cases t <;> rfl, .base (.int i)⟩
  | str s h => exact ⟨by show kitB "str" _ = _; rw [t4]; cases t <;> rfl, .base (.str _)⟩
  | @tup f _ _ _ s l =>
    refine ⟨by show kitB "tuple" _ = _; rw [t5]; cases t <;> rfl, ?_⟩
    cases f with
    | false => exact .base (.tup s)
    | true => obtain ⟨o, _, s⟩ := s; exact .fTuple s
  | @ref i a e =>
    obtain ⟨o, ho, ro⟩ := m.at e
    have key : ∀ {n : String} {p q : Bool}, (tyP M (.ref i) = n) → kitB n (tyName t) = some (match t with | .tLst => p | .tDct => q | _ => false) → (some? (lstAt M i) = p) → (some? (dctAt M i) = q) → kitB (tyP M (.ref i)) (tyName t) = some (isTy M (.ref i) t) := by
      intro n p q h1 h2 h3 h4
      rw [h1, h2]
      subst h3 h4
      cases t <;> rfl
    have hl : lstAt M i = Obj.items o := by show opt (nth M i) none Obj.items = _; rw [nth_eq, ho]; rfl
    have hd : dctAt M i = Obj.dict o := by show opt (nth M i) none Obj.dict = _; rw [nth_eq, ho]; rfl
    have tn : tyP M (.ref i) = (match (some o) with | some (.lst _) => "list" | some (.ro _) => "list" | _ => "dict") := by rw [← ho]; rfl
    cases ro with
    | lst h1 h2 => exact ⟨key tn (by rw [t6]; cases t <;> rfl) (by rw [hl]; rfl) (by rw [hd]; rfl), by rw [tn]; exact .base (.lst h1)⟩
    | ro h1 h2 =>
      refine ⟨key tn (by rw [t6]; cases t <;> rfl) (by rw [hl]; rfl) (by rw [hd]; rfl), ?_⟩
      rw [tn]
      rcases h1 with ⟨ob, h1⟩ | ⟨ob, its, n, h1, h3, _⟩
      · exact .base (.frz h1)
      · exact .kList h1 h3
    | dk h1 h2 => exact ⟨key tn (by rw [t7]; cases t <;> rfl) (by rw [hl]; rfl) (by rw [hd]; rfl), by rw [tn]; exact .base (.dK h1)⟩
    | dt h1 h2 => exact ⟨key tn (by rw [t7]; cases t <;> rfl) (by rw [hl]; rfl) (by rw [hd]; rfl), by rw [tn]; exact .base (.dT h1)⟩
    | box h1 h2 =>
      have hs : opt (nth M i) false (fun o => match o with | .lst _ => true | .ro _ => true | .dk _ => true | .dt _ => true | .box _ => false) = true := hs
      rw [nth_eq, ho] at hs
      cases hs
theorem kitAny_ts {K : PySem.W.Frag} {M : Mem} {v : PV} (h : ∀ t, kitB (tyP M v) (tyName t) = some (isTy M v t)) : ∀ ts : List Ty, PySem.W.kitAny K (.type (tyP M v)) (ts.map fun t => Value.type (tyName t)) = some (lr false (fun t _ r => yes (isTy M v t) true r) ts)
  | [] => kitAny_nil
  | t :: ts => by
    have ih := kitAny_ts (K := K) h ts
    refine kitAny_cons (kit_ty (h t)) (fun e => ?_) fun e => ?_
    · show _ = some (yes (isTy M v t) true _); rw [e]; exact ih
    · show yes (isTy M v t) true _ = true; rw [e]; rfl
/-- isinstance(x, T), isinstance(x, (T, ..)) -/
theorem e_isi1 {e : Expr} {x : Se} {p p2 : Pos} {t : Ty} {nm : Str} (hK : F.K = X.K) (he : PE X e (tE F x)) (hg : Gl X "isinstance") (hm : X.mg "isinstance" = none) (hT : PE X (.Name nm p2) (tC (.ty (tyName t))))
    (hs : starEach [e, .Name nm p2] X.env = (false, eval e X.env) :: starEach [.Name nm p2] X.env) (hs2 : starEach [.Name nm p2] X.env = (false, eval (.Name nm p2) X.env) :: starEach [] X.env) (hpl : (backTo pos (starEach [.Name nm p2] X.env)).any (·.1) = false) :
    PE X (.Call (.Name "isinstance" p) [e, .Name nm p2] [] pos) (tE F (sBi (b1 (biIsi [t])) (lCons x lNil))) := by
  refine (pe_callB call_isi hg hm boot_isinstance (pa_cons he (pa_cons hT pa_nil hs2) hs) (by decide) (by decide) hs hpl).imp fun σ H Q q => ?_
  obtain ⟨μ, M, ρ, A, q⟩ := q
  refine ⟨μ, M, ρ, A, (Ok.bind.mp (Ok.bind.mp q)).mono (fun v M1 q V H1 μ1 x1 m1 r1 => ?_) fun _ _ _ q => q⟩
  obtain ⟨hse, q⟩ := yes_ok (show Ok (yes (seen M1 v) (Res.ok (PV.bl (yes (isTy M1 v t) true false)) M1) Res.no) (F.Gd H μ M Q) (F.Ge H μ M σ) from q)
  have tk := fun t => isTy_kit m1 r1 hse t
  refine ⟨V, .ty (tyName t), .type (tyP M1 v), .type (tyName t), isTy M1 v t, rfl, .ty _, hK ▸ (tk t).2, kit_ty (tk t).1, ?_⟩
  have q : F.Gd H μ M Q (.bl (yes (isTy M1 v t) true false)) M1 := q
  have e : yes (isTy M1 v t) true false = isTy M1 v t := by cases isTy M1 v t <;> rfl
  rw [e] at q
  exact q _ H1 μ1 x1 m1 (.bl _)
theorem e_isiT {e ct : Expr} {x : Se} {p : Pos} {ts : List Ty} (hK : F.K = X.K) (he : PE X e (tE F x)) (hg : Gl X "isinstance") (hm : X.mg "isinstance" = none) (hT : PE X ct (fun _ H Q => ∀ p, H p = none → Q (.ref p) (upd H p (.tup (ts.map fun t => L2.V.ty (tyName t))))))
    (hs : starEach [e, ct] X.env = (false, eval e X.env) :: starEach [ct] X.env) (hs2 : starEach [ct] X.env = (false, eval ct X.env) :: starEach [] X.env) (hpl : (backTo pos (starEach [ct] X.env)).any (·.1) = false) :
    PE X (.Call (.Name "isinstance" p) [e, ct] [] pos) (tE F (sBi (b1 (biIsi ts)) (lCons x lNil))) := by
  refine (pe_callB call_isiT hg hm boot_isinstance (pa_cons he (pa_cons hT pa_nil hs2) hs) (by decide) (by decide) hs hpl).imp fun σ H Q q => ?_
  obtain ⟨μ, M, ρ, A, q⟩ := q
  refine ⟨μ, M, ρ, A, (Ok.bind.mp (Ok.bind.mp q)).mono (fun v M1 q V H1 μ1 x1 m1 r1 => ?_) fun _ _ _ q => q⟩
  obtain ⟨hse, q⟩ := yes_ok (show Ok (yes (seen M1 v) (Res.ok (PV.bl (lr false (fun t _ r => yes (isTy M1 v t) true r) ts)) M1) Res.no) (F.Gd H μ M Q) (F.Ge H μ M σ) from q)
  intro p hp
  have k := keepNew (o := .tup (ts.map fun t => L2.V.ty (tyName t))) hp
  have x2 : F.Ext H1 μ1 M1 (upd H1 p (.tup (ts.map fun t => L2.V.ty (tyName t)))) μ1 M1 := Ext.same k
  have m2 := m1.same k
  have r2 := r1.ext x2
  have tk := fun t => isTy_kit m2 r2 hse t
  have pr : ∀ ts : List Ty, Paired ClsV (ts.map fun t => L2.V.ty (tyName t)) (ts.map fun t => Value.type (tyName t)) := fun ts => by
    induction ts with
    | nil => exact .nil
    | cons t ts ih => exact .cons (.ty _) ih
  exact ⟨V, p, _, .type (tyP M1 v), _, _, rfl, upd_same, pr ts, hK ▸ (tk .tInt).2, kitAny_ts (fun t => (tk t).1) ts, q _ _ μ1 (x1.trans x2) m2 (.bl _)⟩
end
end Ev

set_option Elab.async false
set_option linter.all false
set_option maxRecDepth 100000
set_option maxHeartbeats 1000000
/-! Sj7: sorted. -/
namespace Ev
open PySem PySem.Spec PyProof.Rows L2
open PySem.W (EachIs dataLe AllAlike Sortable)
/-! ### insertion sort is the sort -/
theorem insI_perm (x : Int) : ∀ l : List Int, (insI x l).Perm (x :: l)
  | [] => List.Perm.refl _
  | y :: r => by
    show (yes (intLe x y) (x :: y :: r) (y :: insI x r)).Perm _
    cases intLe x y with
    | true => exact List.Perm.refl _
    | false => exact ((insI_perm x r).cons y).trans (List.Perm.swap x y r)
theorem sortI_perm : ∀ l : List Int, (sortI l).Perm l
  | [] => List.Perm.refl _
  | x :: r => (insI_perm x (sortI r)).trans ((sortI_perm r).cons x)
theorem insI_sorted (x : Int) : ∀ {l : List Int}, l.Pairwise (· ≤ ·) → (insI x l).Pairwise (· ≤ ·)
  | [], _ => by show [x].Pairwise _; simp
  | y :: r, h => by
    show (yes (intLe x y) (x :: y :: r) (y :: insI x r)).Pairwise _
    rw [intLe_iff]
    rw [List.pairwise_cons] at h
    by_cases hx : x ≤ y
    · rw [decide_eq_true hx]
      show (x :: y :: r).Pairwise _
      rw [List.pairwise_cons, List.pairwise_cons]
      refine ⟨fun z hz => ?_, h⟩
      rcases List.mem_cons.mp hz with rfl | hz
      · exact hx
      · have := h.1 z hz; omega
    · rw [decide_eq_false hx]
      show (y :: insI x r).Pairwise _
      rw [List.pairwise_cons]
      refine ⟨fun z hz => ?_, insI_sorted x h.2⟩
      rcases List.mem_cons.mp ((insI_perm x r).mem_iff.mp hz) with rfl | hz
      · omega
      · exact h.1 z hz
theorem sortI_sorted : ∀ l : List Int, (sortI l).Pairwise (· ≤ ·)
  | [] => .nil
  | x :: r => insI_sorted x (sortI_sorted r)
theorem sortI_uniq {l m : List Int} (h1 : m.Perm l) (h2 : m.Pairwise (· ≤ ·)) : m = sortI l :=
  List.Perm.eq_of_pairwise (fun a b _ _ h h' => Int.le_antisymm h h') h2 (sortI_sorted l) (h1.trans (sortI_perm l).symm)
theorem rowLe_iff : ∀ x y : List Int, rowLe x y = decide (x ≤ y)
  | [], y => by
    show true = _
    rw [decide_eq_true (List.nil_le y)]
  | a :: x, [] => by
    show false = _
    rw [decide_eq_false]
    rw [← List.not_lt]
    simp
  | a :: x, b :: y => by
    have ih := rowLe_iff x y
    show yes (intLt a b) true (yes (intLt b a) false (rowLe x y)) = _
    rw [intLt_iff, intLt_iff, ih]
    have e : (a :: x ≤ b :: y) ↔ a < b ∨ (a = b ∧ x ≤ y) := by
      rw [← List.not_lt, List.cons_lt_cons_iff, ← List.not_lt]
      constructor
      · intro h
        by_cases h1 : a < b
        · exact .inl h1
        · refine .inr ⟨?_, fun h2 => h ?_⟩
          · by_cases h3 : b < a
            · exact absurd (.inl h3) h
            · omega
          · by_cases h3 : b < a
            · exact .inl h3
            · exact .inr ⟨by omega, h2⟩
      · rintro (h1 | ⟨rfl, h1⟩) (h2 | ⟨h2, h3⟩)
        · omega
        · omega
        · omega
        · exact h1 h3
    by_cases h1 : a < b
    · rw [decide_eq_true h1, decide_eq_true (e.mpr (.inl h1))]; rfl
    · rw [decide_eq_false h1]
      by_cases h2 : b < a
      · have n : ¬ (a :: x ≤ b :: y) := by rw [e]; omega
        rw [decide_eq_true h2, decide_eq_false n]; rfl
      · rw [decide_eq_false h2]
        have h3 : a = b := by omega
        show decide (x ≤ y) = _
        rw [Bool.eq_iff_iff, decide_eq_true_iff, decide_eq_true_iff, e]
        constructor
        · exact fun h => .inr ⟨h3, h⟩
        · rintro (h | ⟨_, h⟩)
          · omega
          · exact h
theorem insR_perm (x : List Int) : ∀ l : List (List Int), (insR x l).Perm (x :: l)
  | [] => List.Perm.refl _
  | y :: r => by
    show (yes (rowLe x y) (x :: y :: r) (y :: insR x r)).Perm _
    cases rowLe x y with
    | true => exact List.Perm.refl _
    | false => exact ((insR_perm x r).cons y).trans (List.Perm.swap x y r)
theorem sortR_perm : ∀ l : List (List Int), (sortR l).Perm l
  | [] => List.Perm.refl _
  | x :: r => (insR_perm x (sortR r)).trans ((sortR_perm r).cons x)
theorem rowLe_total (x y : List Int) : x ≤ y ∨ y ≤ x := by
  by_cases h : x < y
  · exact .inl (List.le_of_lt h)
  · exact .inr (List.not_lt.mp h)
theorem insR_sorted (x : List Int) : ∀ {l : List (List Int)}, l.Pairwise (· ≤ ·) → (insR x l).Pairwise (· ≤ ·)
  | [], _ => by show [x].Pairwise _; simp
  | y :: r, h => by
    show (yes (rowLe x y) (x :: y :: r) (y :: insR x r)).Pairwise _
    rw [rowLe_iff]
    rw [List.pairwise_cons] at h
    by_cases hx : x ≤ y
    · rw [decide_eq_true hx]
      show (x :: y :: r).Pairwise _
      rw [List.pairwise_cons, List.pairwise_cons]
      refine ⟨fun z hz => ?_, h⟩
      rcases List.mem_cons.mp hz with rfl | hz
      · exact hx
      · exact List.le_trans hx (h.1 z hz)
    · rw [decide_eq_false hx]
      show (y :: insR x r).Pairwise _
      rw [List.pairwise_cons]
      refine ⟨fun z hz => ?_, insR_sorted x h.2⟩
      rcases List.mem_cons.mp ((insR_perm x r).mem_iff.mp hz) with rfl | hz
      · exact (rowLe_total y z).resolve_right hx
      · exact h.1 z hz
theorem sortR_sorted : ∀ l : List (List Int), (sortR l).Pairwise (· ≤ ·)
  | [] => .nil
  | x :: r => insR_sorted x (sortR_sorted r)
theorem sortR_uniq {l m : List (List Int)} (h1 : m.Perm l) (h2 : m.Pairwise (· ≤ ·)) : m = sortR l :=
  List.Perm.eq_of_pairwise (fun a b _ _ h h' => List.le_antisymm h h') h2 (sortR_sorted l) (h1.trans (sortR_perm l).symm)
theorem dataLe_tups {β : Type} (x : β → List Int) : dataLe false (fun b => .tuple ((x b).map .int)) = fun p q => decide (x p ≤ x q) := by
  have := PySem.W.dataLe_rows x
  rw [← this]
  funext p q
  show (!PySem.W.dataLt (.tuple ((x q).map .int)) (.tuple ((x p).map .int))) = (!PySem.W.dataLt (.list ((x q).map .int)) (.list ((x p).map .int)))
  rw [PySem.W.dataLt_tuple, PySem.W.dataLt_list]
/-! ### sorted of what was collected -/
section
variable {X : Cx} {F : Fr} {pos : Pos}
/-- what is collected from a, of values that are related to ys -/
def Coll (X : Cx) (pins : List (Addr × PySem.Obj)) (σ : L2.St) (H : Hp) (s : Shared) (a : Addr) (ys : List V) : Prop :=
  ∀ (R : List Value → Shared → Prop) (E : Value → Shared → Prop), (∀ h' tk us, (∀ b o, s.heap.get? b = some o → h'.get? b = some o) → Vals ys us → R us { s with heap := h', toks := tk }) → wpAny (model X.prog X.w) X.A.in1 (collect (.ref a)) R E s
theorem sort_core {β : Type} {enc : β → PyData} {bs : List β} {pins : List (Addr × PySem.Obj)} {σ : L2.St} {H : Hp} {s : Shared} {a : Addr} {ys : List V} {Q : VK} (toV : β → V) (I : Inv X pins σ H s) (hcol : Coll X pins σ H s a ys) (hys : ys = bs.map toV)
    (hrd : ∀ h' tk us, Inv X pins σ H { s with heap := h', toks := tk } → Vals ys us → EachIs (fun v b => RelV (toV b) v ∧ Reads h' v (enc b) []) us bs) (hal : AllAlike (bs.map enc)) (hk : Sortable (bs.map enc)) (hL : bs.length ≤ sizeLine) (hd : ∀ b, b ∈ bs → (enc b).depth ≤ 1) (hu : X.A.units + 10 < cLine)
    (q : ∀ p, H p = none → Q (.ref p) (upd H p (.lst ((bs.mergeSort (dataLe false enc)).map toV)))) : wpAny (model X.prog X.w) X.A (call (.builtin "sorted") [.ref a]) (EP X pins σ Q) X.xe s := by
  refine Calls.call_function_entry PyProof.Rows.kind_sorted PyProof.Rows.plain_sorted PyProof.Rows.entry_sorted (PyProof.Rows.args_sorted1 _) ?_
  unfold Builtin.«sorted»
  refine wpAny_bind (m := checkCount "sorted" 1 1 _) (wpAny_pure ?_)
  refine wpAny_bind (hcol _ _ fun h' tk us hkp rv => ?_)
  have I1 : Inv X pins σ H { s with heap := h', toks := tk } := I.kept hkp
  have er := hrd h' tk us I1 rv
  have hul : us.length = bs.length := er.length
  refine wpAny_bind (wpAny_newList ?_ (by rw [hul]; exact hL))
  have hoL : (h'.push (seqObj "list" us.toArray 0)).get? h'.objs.size = some (seqObj "list" us.toArray 0) := Heap.get?_push_size _ rfl
  show wpAny _ _ _ _ _ { s with heap := h'.push (seqObj "list" us.toArray 0), toks := tk }
  have er2 : EachIs (fun v b => ∃ as, Reads (h'.push (seqObj "list" us.toArray 0)) v (enc b) as ∧ h'.objs.size ∉ as) us bs := er.mono fun v b hh => ⟨[], PyProof.Rows.Reads.keeps (fun _ _ => Heap.get?_push_of_some _) hh.2, by simp⟩
  refine wpAny_bind (wpAny_holding (PySem.W.list_sort_data (A := X.A.in1) (s := { s with heap := h'.push (seqObj "list" us.toArray 0), toks := tk }) (R := fun v b => RelV (toV b) v) hoL (er.mono fun _ _ hh => hh.1) er2 hal hk hL (fun b hb => by have := hd b hb; show X.A.units + 1 + 1 + (enc b).depth < cLine; omega) fun out ho1 ho2 => ?_))
  obtain ⟨e', he'⟩ := PyProof.Rows.sortedHeap_at (vs := us) (out := List.toArray out) hoL
  have hv : Vals ((bs.mergeSort (dataLe false enc)).map toV) out := by
    clear he' ho1
    generalize bs.mergeSort (dataLe false enc) = cs at ho2
    induction ho2 with
    | nil => exact .nil
    | cons hh _ ih => exact .cons hh ih
  have hlen : ((bs.mergeSort (dataLe false enc)).map toV).length ≤ sizeLine := by rw [List.length_map, (List.mergeSort_perm bs _).length_eq]; exact hL
  refine wpAny_pure ⟨_, rfl, .ref h'.objs.size, upd H h'.objs.size (.lst ((bs.mergeSort (dataLe false enc)).map toV)), I1.laid (t' := tk) (fun b u e => ?_) (Nat.le_refl _)
    (show ObjOk X.prog X.w _ _ _ (.lst ((bs.mergeSort (dataLe false enc)).map toV)) from ⟨hlen, out, e', hv, he'⟩), rfl, q _ (I1.hok.fresh (Nat.le_refl _))⟩
  have hb : b < h'.objs.size := Heap.lt_size e
  rw [PyProof.Rows.sortedHeap_old (Nat.ne_of_lt hb) (by rw [size_push']; exact Nat.lt_succ_of_lt hb)]
  exact Heap.get?_push_of_some _ e
theorem coll_list {pins : List (Addr × PySem.Obj)} {σ : L2.St} {H : Hp} {s : Shared} {a : Addr} {ys : List V} (I : Inv X pins σ H s) (h : SqL X.K H a ys) : Coll X pins σ H s a ys := by
  intro R E q
  obtain ⟨its, rv, hl, hz⟩ := I.list h
  refine PyProof.Rows.collect_list hl.isList ?_ (by rw [← rv.length]; exact hz)
  refine q _ s.toks its (fun b o e => ?_) rv
  rw [Heap.get?_update_other _ _ (Nat.ne_of_gt (Heap.lt_size e))]
  exact Heap.get?_push_of_some _ e
theorem coll_dK (hc : X.calm = true) {pins : List (Addr × PySem.Obj)} {σ : L2.St} {H : Hp} {s : Shared} {a : Addr} {kvs : List (Key × V)} (I : Inv X pins σ H s) (h : H a = some (.dK kvs)) : Coll X pins σ H s a (kvs.map fun kv => kV kv.1) := by
  intro R E q
  obtain ⟨z, lo, vs, rel, dd⟩ := dk_rd I.hok (.inl h)
  obtain ⟨ep, hat⟩ := dd.dictAt
  refine PySem.W.kdu_collect (A := X.A.in1) (PySem.W.kdl_dict (knd := mixKind X.prog X.w) (kvs := vs) (ep := ep) lo) (I.ok.hd hc) hat (by rw [← rel.length]; exact z) fun h' tk acc hk hacc => ?_
  refine q h' tk _ hk ?_
  have ek : (kvs.map fun kv => kV kv.1) = vs.map fun p => kV p.1 := by
    have e := congrArg (List.map kV) rel.keys
    rw [List.map_map, List.map_map] at e
    exact e
  rw [ek]
  exact keys_at (by rw [Array.length_toList]; exact hacc.1) fun j v e => hacc.2 j v (by rw [← Array.getElem?_toList]; exact e)
theorem coll_dT (hc : X.calm = true) {pins : List (Addr × PySem.Obj)} {σ : L2.St} {H : Hp} {s : Shared} {a : Addr} {kvs : List (List Key × V)} (I : Inv X pins σ H s) (h : H a = some (.dT kvs)) : ∃ bs, IsKeys H kvs bs ∧ Coll X pins σ H s a (bs.map V.ref) := by
  obtain ⟨z, hs, ks, pr, o, es, ep, ho, hx, hdt, he, hn⟩ := (show ObjOk X.prog X.w H s.heap a (.dT kvs) from I.hok a _ h)
  have l1 : es.size = ks.length := size_of_entries he
  have l2 : kvs.length = ks.length := Paired.length pr
  refine ⟨ks.map (·.2.1), isKeys_of pr, fun R E q => ?_⟩
  refine PySem.W.kdu_collect (A := X.A.in1) (kdl_raw hs hx hdt) (I.ok.hd hc) ho (by omega) fun h' tk acc' kp it => ?_
  refine q h' tk _ kp ?_
  have ea : acc'.toList = (ks.map (·.2.1)).map Value.ref := by
    have hl : acc'.toList.length = ks.length := by rw [Array.length_toList, it.1]; exact l1
    apply List.ext_getElem?
    intro j
    rw [List.map_map, List.getElem?_map]
    cases hj : acc'.toList[j]? with
    | none =>
      have h1 := List.getElem?_eq_none_iff.mp hj
      rw [List.getElem?_eq_none (by omega)]
      rfl
    | some v =>
      obtain ⟨en, hen, hv⟩ := it.2 j v (by rw [← Array.getElem?_toList]; exact hj)
      have qe := entry_at he j
      rw [hen] at qe
      cases hb : ks[j]? with
      | none => rw [hb] at qe; exact nomatch (show some en = none from qe)
      | some b =>
        rw [hb] at qe
        have e2 : en = entryOfKey (tupleKind (mixKind X.prog X.w)) b := Option.some.inj qe
        rw [hv, e2]; rfl
  rw [ea]
  exact vals_refs _
theorem rows_ok {f : Bool} {l : List PV} {rs : List (List Int)} (h : rows f l = some rs) : l = rs.map (fun r => PV.tup f (intsP r)) ∧ ∀ r ∈ rs, r ≠ [] := by
  induction l generalizing rs with
  | nil => cases h; exact ⟨rfl, fun _ h => by simp at h⟩
  | cons v l ih =>
    have h : v.onTF none (fun k xs => yes (yes k f (no? f)) (opt (Ev.intsOf xs) none fun is => yes (full is) (opt (rows f l) none fun q => some (is :: q)) none) none) = some rs := h
    cases v with
    | tup k xs =>
      obtain ⟨e0, h⟩ := yes_some' (show yes (yes k f (no? f)) (opt (Ev.intsOf xs) none fun is => yes (full is) (opt (rows f l) none fun q => some (is :: q)) none) none = some rs from h)
      have ek : k = f := by cases k <;> cases f <;> first | rfl | cases e0
      subst ek
      obtain ⟨is, e1, h⟩ := opt_some' h
      obtain ⟨e2, h⟩ := yes_some' h
      obtain ⟨q, e3, h⟩ := opt_some' h
      cases h
      obtain ⟨i1, i2⟩ := ih e3
      refine ⟨?_, fun r hr => ?_⟩
      · rw [i1, ints_ok e1, List.map_cons]
        unfold intsP
        rw [mapL_eq]
      · rcases List.mem_cons.mp hr with rfl | hr
        · exact full_ne e2
        · exact i2 r hr
    | _ => cases h
theorem rows_rel {f : Bool} {K : PySem.W.Frag} {H : Hp} {μ : List Addr} : ∀ {rs : List (List Int)} {vs : List V}, RVs K H μ (rs.map (fun r => PV.tup f (intsP r))) vs → ∃ bs : List (Addr × List Int), bs.map (·.2) = rs ∧ vs = bs.map (fun b => V.ref b.1) ∧ ∀ b ∈ bs, TupAt f H b.1 (b.2.map V.int)
  | [], _, h => by cases h; exact ⟨[], rfl, rfl, fun _ h => by simp at h⟩
  | r :: rs, vs, h => by
    cases h with
    | cons h1 h2 =>
      obtain ⟨bs, e1, e2, e3⟩ := rows_rel h2
      cases h1 with
      | @tup _ a _ ws s l =>
        unfold intsP at l
        rw [mapL_eq] at l
        have := l.ints
        subst this
        refine ⟨(a, r) :: bs, by rw [List.map_cons, e1], by rw [e2]; rfl, fun b hb => ?_⟩
        rcases List.mem_cons.mp hb with rfl | hb
        · exact s
        · exact e3 b hb
theorem sortV_run {pins : List (Addr × PySem.Obj)} {σ : L2.St} {H : Hp} {s : Shared} {μ : List Addr} {M : Mem} {a : Addr} {xs r : List PV} {ys : List V} {Q : VK} (hu : X.A.units + 10 < cLine) (I : Inv X pins σ H s) (hcol : Coll X pins σ H s a ys) (hz : ys.length ≤ sizeLine) (m : F.RM H μ M) (rl : RVs F.K H μ xs ys) (e : sortV xs = some r)
    (q : Ok (new M (.lst r)) (F.Gd H μ M Q) fun _ _ _ => False) : wpAny (model X.prog X.w) X.A (call (.builtin "sorted") [.ref a]) (EP X pins σ Q) X.xe s := by
  have e : opt (Ev.intsOf xs) (opt (rows false xs) (opt (rows true xs) none fun l => some (sortRV true l)) fun l => some (sortRV false l)) (fun is => some (intsP (sortI is))) = some r := e
  cases e1 : Ev.intsOf xs with
  | some is =>
    rw [e1] at e
    have e3 : intsP (sortI is) = r := Option.some.inj e
    have ex := ints_ok e1
    subst ex
    have ey := rl.ints
    subst ey
    rw [List.length_map] at hz
    refine sort_core (enc := PyData.int) V.int I hcol rfl (fun h' tk us _ rv => ?_) (AllAlike.of fun _ _ => rfl) (Sortable.others fun b => ⟨fun h => (by cases h), fun _ h => (by cases h)⟩) hz (fun b _ => Nat.zero_le _) hu fun p hp => ?_
    · have go : ∀ {cs : List Int} {us : List Value}, Vals (cs.map V.int) us → EachIs (fun v b => RelV (V.int b) v ∧ Reads h' v (PyData.int b) []) us cs := by
        intro cs
        induction cs with
        | nil => intro us h; cases h; exact .nil
        | cons i cs ih =>
          intro us h
          cases h with
          | cons r rr => exact .cons ⟨r, by obtain ⟨t, rfl⟩ := r; exact .int i t⟩ (ih rr)
      exact go rv
    · have eq : is.mergeSort (dataLe false PyData.int) = sortI is := by
        have := PySem.W.dataLe_int (fun i : Int => i)
        have hle : dataLe false PyData.int = fun a b : Int => decide (a ≤ b) := this
        rw [hle]
        refine sortI_uniq (List.mergeSort_perm _ _) ?_
        have hp := List.pairwise_mergeSort (le := fun a b : Int => decide (a ≤ b)) (fun a b c h1 h2 => by simp at *; omega) (fun a b => by simp; omega) is
        exact hp.imp fun h => by simpa using h
      rw [eq]
      subst e3
      unfold intsP at q
      rw [mapL_eq] at q
      exact new_ok m hp (fun H' μ' x' e' => .lst e' (RVs.ofInts _)) q
  | none =>
    rw [e1] at e
    obtain ⟨f, rs, e2, e3⟩ : ∃ f rs, rows f xs = some rs ∧ sortRV f rs = r := by
      have e : opt (rows false xs) (opt (rows true xs) none fun l => some (sortRV true l)) (fun l => some (sortRV false l)) = some r := e
      cases h1 : rows false xs with
      | some rs => rw [h1] at e; exact ⟨false, rs, h1, Option.some.inj e⟩
      | none =>
        rw [h1] at e
        obtain ⟨rs, h2, e⟩ := opt_some' (show opt (rows true xs) none (fun l => some (sortRV true l)) = some r from e)
        exact ⟨true, rs, h2, Option.some.inj e⟩
    unfold sortRV at e3
    rw [mapL_eq] at e3
    obtain ⟨ex, hne⟩ := rows_ok e2
    subst ex
    obtain ⟨bs, b1, b2, b3⟩ := rows_rel rl
    subst b2
    rw [List.length_map] at hz
    refine sort_core (enc := fun b : Addr × List Int => .tuple (b.2.map .int)) (fun b => V.ref b.1) I hcol rfl (fun h' tk us I' rv => ?_) ?_ ?_ hz (fun b _ => ?_) hu fun p hp => ?_
    · have go : ∀ {cs : List (Addr × List Int)} {us : List Value}, (∀ b ∈ cs, TupAt f H b.1 (b.2.map V.int)) → Vals (cs.map fun b => V.ref b.1) us → EachIs (fun v b => RelV (V.ref b.1) v ∧ Reads h' v (.tuple (b.2.map .int)) []) us cs := by
        intro cs
        induction cs with
        | nil => intro us _ h; cases h; exact .nil
        | cons c cs ih =>
          intro us hb h
          cases h with
          | cons r rr =>
            refine .cons ⟨r, ?_⟩ (ih (fun b h => hb b (List.mem_cons_of_mem _ h)) rr)
            cases r
            obtain ⟨its, rv, ⟨o, ho, hcl, n, hd⟩, _⟩ := I'.tuple (hb c List.mem_cons_self).sq
            exact .tuple ho hcl hd (vals_reads (h := h') rv)
      exact go b3 rv
    · exact AllAlike.of fun b b' => by
        show PySem.W.alike (.tuple _) (.tuple _) = true
        simp only [PySem.W.alike]
        exact PySem.W.alike_ints _ _
    · refine .inl fun d hd => ?_
      obtain ⟨b, hb, rfl⟩ := List.mem_map.mp hd
      have hb2 : b.2 ∈ rs := by rw [← b1]; exact List.mem_map.mpr ⟨b, hb, rfl⟩
      cases h2 : b.2 with
      | nil => exact absurd h2 (hne _ hb2)
      | cons x r => exact ⟨.int x, r.map .int, rfl⟩
    · show PyData.depthAll (b.2.map .int) + 1 ≤ 1
      rw [PySem.W.depth_ints]
      exact Nat.le_refl _
    · have hle := dataLe_tups (fun b : Addr × List Int => b.2)
      rw [hle]
      have hp1 := List.mergeSort_perm bs (fun p q : Addr × List Int => decide (p.2 ≤ q.2))
      have hs := List.pairwise_mergeSort (le := fun p q : Addr × List Int => decide (p.2 ≤ q.2)) (fun a b c h1 h2 => by rw [decide_eq_true_iff] at *; exact List.le_trans h1 h2) (fun a b => by rw [Bool.or_eq_true, decide_eq_true_iff, decide_eq_true_iff]; exact rowLe_total _ _) bs
      generalize bs.mergeSort (fun p q : Addr × List Int => decide (p.2 ≤ q.2)) = cs at hp1 hs
      have eq : cs.map (·.2) = sortR rs := by
        rw [← b1]
        refine sortR_uniq (hp1.map _) ?_
        rw [List.pairwise_map]
        exact hs.imp fun h => by simpa using h
      rw [← eq] at e3
      have hb : ∀ b ∈ cs, TupAt f H b.1 (b.2.map V.int) := fun b h => b3 b (hp1.mem_iff.mp h)
      have rel : RVs F.K H μ r (cs.map fun b => V.ref b.1) := by
        rw [← e3, List.map_map]
        clear e3 eq hs hp1
        induction cs with
        | nil => exact .nil
        | cons c cs ih =>
          refine .cons (.tup (hb c List.mem_cons_self) ?_) (ih fun b h => hb b (List.mem_cons_of_mem _ h))
          unfold intsP
          rw [mapL_eq]
          exact RVs.ofInts _
      exact new_ok m hp (fun H' μ' x' e' => .lst e' (rel.ext x')) q
theorem c_sorted (hK : F.K = X.K) (hc : X.calm = true) (hu : X.A.units + 10 < cLine) : CallR X (.builtin "sorted") (RL F (b1 biSorted)) := one_arg fun pins s σ H x u Q I rx q => by
  obtain ⟨μ, M, v, m, r, q⟩ := q
  cases r with
  | @ref i a e =>
    cases rx
    have q : Ok (opt (opt (nth M i) none fun o => opt o.items (opt o.dict none fun d => some (mapL (fun p => p.1) d.2)) some) .no fun l => opt (sortV l) .no fun r => new M (.lst r)) (F.Gd H μ M Q) (fun _ _ _ => False) := q
    obtain ⟨o, ho, ro⟩ := m.at e
    rw [nth_eq, ho] at q
    have lst : ∀ {xs : List PV} {vs : List V}, SqL F.K H a vs → RVs F.K H μ xs vs → Ok (opt (sortV xs) .no fun r => new M (.lst r)) (F.Gd H μ M Q) (fun _ _ _ => False) → wpAny (model X.prog X.w) X.A (call (.builtin "sorted") [.ref a]) (EP X pins σ Q) X.xe s := fun {xs vs} hs rl q => by
      have hs' : SqL X.K H a vs := hK ▸ hs
      obtain ⟨_, _, _, hz⟩ := I.list hs'
      obtain ⟨r, e2, q⟩ := opt_ok q
      exact sortV_run hu I (coll_list I hs') hz m rl e2 q
    cases ro with
    | box _ _ => first | (cases e; done) | (cases e1; done) | (cases h; done) | (cases hk; done) | (cases q; done) | (exact False.elim q) | (exact False.elim h)
    | lst h1 h2 => exact lst (.of h1) h2 q
    | ro h1 h2 => exact lst h1.sq h2 q
    | @dk kvs mm hs rl =>
      have q : Ok (opt (sortV (mapL (fun p => p.1) kvs)) .no fun r => new M (.lst r)) (F.Gd H μ M Q) (fun _ _ _ => False) := q
      rw [mapL_eq] at q
      obtain ⟨r, e2, q⟩ := opt_ok q
      have z := (dk_rd I.hok (.inl hs)).1
      exact sortV_run hu I (coll_dK hc I hs) (by rw [List.length_map]; exact z) m rl.keysRel e2 q
    | @dt kvs mm hs rl =>
      have q : Ok (opt (sortV (mapL (fun p => p.1) kvs)) .no fun r => new M (.lst r)) (F.Gd H μ M Q) (fun _ _ _ => False) := q
      rw [mapL_eq] at q
      obtain ⟨r, e2, q⟩ := opt_ok q
      obtain ⟨bs, hb, hcol⟩ := coll_dT hc I hs
      have z := (dt_rd I.hok (.inl hs)).1
      exact sortV_run hu I hcol (by rw [List.length_map, ← Paired.length hb]; exact z) m (rl.keysRel hb) e2 q
  | _ => exact q.elim
end
end Ev

set_option Elab.async false
set_option linter.all false
set_option maxRecDepth 100000
set_option maxHeartbeats 1000000
/-! Sj8: methods. -/
namespace Ev
open PySem PySem.Spec PyProof.Rows L2
theorem TupAt.noDict {P : Program} {w : World} {H : Hp} {h : Heap} {a : Addr} {vs : List V} (ok : HOk P w H h) (t : TupAt true H a vs) : ∃ ob, h.get? a = some ob ∧ ob.dict = none := by
  obtain ⟨o, h1, h2⟩ := t
  obtain ⟨e, _⟩ := ok a _ h2
  exact ⟨o, e, h1⟩
section
variable {X : Cx} {F : Fr} {pos : Pos}
/-- the reading of a method's call: of what type the receiver is, by its value -/
def tMe (X : Cx) (name : Str) (to : TE) (t : TA) : TE := fun σ H Q => to σ H fun x H1 => ∃ (T id : String) (r : V → List V → Hp → VK → Prop), PlainAttrs T ∧ Slot T name id ∧ typeOf (.builtin id) = pure (.type "method_descriptor") ∧ MtR X id r ∧
  (tyV X.K T x H1 ∨ (T = "tuple" ∧ ∃ a vs, x = .ref a ∧ TupAt true H1 a vs)) ∧ t σ H1 fun xs H2 => r x xs H2 Q
theorem tyV_isT {pins : List (Addr × PySem.Obj)} {σ : L2.St} {H : Hp} {s : Shared} {T : String} {x : V} {v : Value} (I : Inv X pins σ H s) (r : RelV x v) (ty : tyV X.K T x H ∨ (T = "tuple" ∧ ∃ a vs, x = .ref a ∧ TupAt true H a vs)) :
    s.TypeIs v T ∧ ∀ a, v = .ref a → ∃ ob, s.heap.get? a = some ob ∧ ob.dict = none := by
  rcases ty with ty | ⟨rfl, a, vs, rfl, t⟩
  · exact tyV_is I r ty
  · cases r
    obtain ⟨its, rv, pl, _⟩ := I.tuple (t.sq (K := X.K))
    refine ⟨pl.typeIs, fun b e => ?_⟩
    cases e
    exact t.noDict I.hok
theorem pe_me {o e : Expr} {es : List Expr} {to : TE} {t : TA} {name : Str} {apos cpos : Pos} (ho : PE X o to) (ha : PA X (e :: es) t)
    (hbase : attributeBase o name X.env (eval o X.env) = eval o X.env)
    (hfew : ((backTo cpos (starEach (e :: es) X.env)).all (fun x => !x.1) && (backToKw cpos (keywordEach [] X.env)).all (fun x => x.1.isSome)
      && decide ((e :: es).length + ([] : List Keyword).length + (if ([] : List Keyword).isEmpty then 0 else 1) < 30)) = true)
    (hline : (apos.endLine == cpos.line) = true) (hs : starEach (e :: es) X.env = (false, eval e X.env) :: starEach es X.env) (hplain : (backTo cpos (starEach es X.env)).any (·.1) = false) :
    PE X (.Call (.Attribute o name apos) (e :: es) [] cpos) (tMe X name to t) := by
  refine ⟨fun pins s σ H Q I h => ?_⟩
  refine wpAny_Call_method_late hbase hfew hline rfl (thn (ho.run pins s σ H _ I h) fun v s1 ⟨x, H1, I1, r1, T, id, r, pa, slot, hty, hm, ty, q1⟩ => ?_)
  obtain ⟨h1, h2⟩ := tyV_isT I1 r1 ty
  refine ⟨T, id, pa, slot, hty, h1, h2, ?_⟩
  have hA := ha.run cpos pins s1 σ H1 _ I1 q1
  rw [hs] at hA ⊢
  refine Calls.callWith_builtin (by show (false || (backTo cpos (starEach es X.env)).any (·.1)) = false; rw [hplain]; rfl) (Calls.evalArgs_plain ?_)
  exact thn hA fun us s2 ⟨vs, H2, I2, r2, q2⟩ => hm pins s2 σ H2 x vs v us Q I2 r1 r2 q2
theorem pe_me0 {o : Expr} {to : TE} {name : Str} {apos cpos : Pos} (ho : PE X o to)
    (hbase : attributeBase o name X.env (eval o X.env) = eval o X.env) (hline : (apos.endLine == cpos.line) = true) : PE X (.Call (.Attribute o name apos) [] [] cpos) (tMe X name to L2.tNil) := by
  refine ⟨fun pins s σ H Q I h => ?_⟩
  refine wpAny_Call_method0_late hbase hline (thn (ho.run pins s σ H _ I h) fun v s1 ⟨x, H1, I1, r1, T, id, r, pa, slot, hty, hm, ty, q1⟩ => ?_)
  obtain ⟨h1, h2⟩ := tyV_isT I1 r1 ty
  exact ⟨T, id, pa, slot, hty, h1, h2, Calls.callWith_builtin rfl (PySem.evalArgs_none (hm pins s1 σ H1 x [] v [] Q I1 r1 .nil q1))⟩
/-- by values of the evaluator -/
def RMe (F : Fr) (f : Mf) : V → List V → Hp → VK → Prop := fun x xs H Q => ∃ μ M v vs, F.RM H μ M ∧ RV F.K H μ v x ∧ RVs F.K H μ vs xs ∧ Ok (f F.c.b M v vs) (F.Gd H μ M Q) fun _ _ _ => False
theorem toMe {k : Mem → PV → Bool} {f : Mf} {o : Se} {l : Sl} {name : Str} (n : ∀ b M v vs, NX (f b M v vs))
    (kd : ∀ (H : Hp) (μ : List Addr) (M : Mem) (v : PV) (x : V), F.RM H μ M → RV F.K H μ v x → k M v = true → ∃ (T id : String) (r : V → List V → Hp → VK → Prop), PlainAttrs T ∧ Slot T name id ∧ typeOf (.builtin id) = pure (.type "method_descriptor") ∧ MtR X id r ∧
      (tyV X.K T x H ∨ (T = "tuple" ∧ ∃ a vs, x = .ref a ∧ TupAt true H a vs)) ∧ ∀ (H2 : Hp) (μ2 : List Addr) (M2 : Mem) (xs : List V) (vs : List PV) (Q : VK), F.Ext H μ M H2 μ2 M2 → F.RM H2 μ2 M2 → RVs F.K H2 μ2 vs xs → Ok (f F.c.b M2 v vs) (F.Gd H2 μ2 M2 Q) (fun _ _ _ => False) → r x xs H2 Q)
    {σ : L2.St} {H : Hp} {Q : VK} (q : tE F (sMe k f o l) σ H Q) : tMe X name (tE F o) (tL F l) σ H Q := by
  obtain ⟨μ, M, ρ, A, q⟩ := q
  refine ⟨μ, M, ρ, A, (Ok.bind.mp q).mono (fun v M1 q V H1 μ1 x1 m1 r1 => ?_) fun _ _ _ q => q⟩
  obtain ⟨hk, q⟩ := yes_ok q
  obtain ⟨T, id, r, h1, h2, h3, h4, h5, h6⟩ := kd H1 μ1 M1 v V m1 r1 hk
  refine ⟨T, id, r, h1, h2, h3, h4, h5, μ1, M1, ρ, A.go x1 m1, (Ok.bind.mp q).mono (fun vs M2 q xs H2 μ2 x2 m2 r2 => ?_) fun _ _ _ q => q.step x1⟩
  exact h6 H2 μ2 M2 xs vs Q x2 m2 r2 ((q.nx (n _ M2 v vs)).mono (fun _ _ q => q.step (x1.trans x2)) fun _ _ _ q => q)
/-- a list of one's own, as the receiver -/
theorem own_list {H : Hp} {μ : List Addr} {M : Mem} {v : PV} {x : V} (m : F.RM H μ M) (r : RV F.K H μ v x) (h : (v.onR false fun i => some? (mineAt M i)) = true) : ∃ i a, v = .ref i ∧ x = .ref a ∧ ∃ vs, H a = some (.lst vs) := by
  cases r with
  | @ref i a e =>
    have h : some? (mineAt M i) = true := h
    obtain ⟨o, ho, ro⟩ := m.at e
    have e1 : mineAt M i = o.mine := by show opt (nth M i) none Obj.mine = _; rw [nth_eq, ho]; rfl
    rw [e1] at h
    cases ro with
    | lst h1 h2 => exact ⟨i, a, rfl, rfl, _, h1⟩
    | _ => cases h
  | _ => cases h
/-- a list is written -/
theorem lst_step {K : PySem.W.Frag} {b : Nat} {H : Hp} {μ : List Addr} {M : Mem} {i : Nat} {a : Addr} {xs ys : List PV} {vs ws : List V} (m : RM K b H μ M) (e : μ[i]? = some a) (hM : M[i]? = some (.lst xs)) (h : H a = some (.lst vs)) (hc : ∀ c, c ≤ b → i < c → Lows c xs → Lows c ys) (r : ∀ H' M', Ev.Ext b H μ M H' μ M' → RVs K H' μ ys ws) :
    Ev.Ext b H μ M (upd H a (.lst ws)) μ (M.set i (.lst ys)) ∧ RM K b (upd H a (.lst ws)) μ (M.set i (.lst ys)) :=
  wr_step (o' := .lst ws) (ob' := .lst ys) m e hM trivial h wr_lst (fun c h1 h2 h3 => hc c h1 h2 (low_at (o := .lst xs) h3 h2 hM)) fun H' M' x e => .lst e (r H' M' x)
theorem nx_append {b : Nat} {M : Mem} {v : PV} {vs : List PV} : NX (m1 meAppend b M v vs) := nx_lc trivial fun x r => nx_lc (nx_onR trivial fun i => nx_opt trivial fun l => nx_yes (nx_yes trivial trivial) trivial) fun _ _ => trivial
theorem e_append {o e : Expr} {x : Se} {l : Sl} {es : List Expr} {apos cpos : Pos} (hK : F.K = X.K) (h : PE X (.Call (.Attribute o "append" apos) es [] cpos) (tMe X "append" (tE F x) (tL F l))) : PE X (.Call (.Attribute o "append" apos) es [] cpos) (tE F (sMe (meKd .append) (evMe .append) x l)) := by
  refine h.imp fun σ H Q q => toMe (fun _ _ _ _ => nx_append) (fun H μ M v V m r hk => ?_) q
  obtain ⟨i, a, rfl, rfl, vs, ha⟩ := own_list m r hk
  refine ⟨"list", "list.append", _, PySem.F.plainAttrs_list, PySem.F.slot_list_append, PySem.F.type_list_append, mt_append, .inl (.inl ⟨rfl, vs, .of ha⟩), fun H2 μ2 M2 xs ws Q x2 m2 r2 q => ?_⟩
  cases r2 with
  | nil => exact q.elim
  | @cons w W _ _ rw rr => cases rr with
    | cons _ _ => exact q.elim
    | nil =>
      cases r with
      | ref e =>
        have e2 : μ2[i]? = some a := by cases (RV.ref (K := F.K) (H := H) e).ext x2 with | ref e => exact e
        obtain ⟨ys, zs, h1, h2, h3, q⟩ := mineAt_ok m2 e2 (show Ok (opt (mineAt M2 i) .no fun l => yes (Nat.ble (Nat.succ (len l)) line) (yes (mayIn F.c.b i w) (Res.ok PV.non (put1 M2 i (.lst (app l [w])))) .no) .no) _ _ from q)
        obtain ⟨hl, q⟩ := yes_ok q
        obtain ⟨hm, q⟩ := yes_ok q
        rw [len_eq, natBle, line_eq, h3.length] at hl
        unfold put1 at q
        rw [app_eq, setL_eq] at q
        have st := lst_step (ys := ys ++ [w]) (ws := zs ++ [W]) m2 e2 h1 h2 (fun c hc hi hx => Lows.mem.mpr fun y hy => by
          rcases List.mem_append.mp hy with hy | hy
          · exact Lows.mem.mp hx y hy
          · simp at hy; subst hy; exact mayIn_low hm hc hi) fun H' M' x => (h3.ext x).append (RVs.one (rw.ext x))
        exact ⟨a, zs, W, rfl, rfl, h2, hl, q _ _ μ2 st.1 st.2 .non⟩
theorem nx_extend {b : Nat} {M : Mem} {v : PV} {vs : List PV} : NX (m1 meExtend b M v vs) := nx_lc trivial fun x r => nx_lc (nx_onR trivial fun i => nx_onR trivial fun j => nx_opt trivial fun l => nx_opt trivial fun l' => nx_yes (nx_yes trivial trivial) trivial) fun _ _ => trivial
theorem e_extend {o e : Expr} {x : Se} {l : Sl} {es : List Expr} {apos cpos : Pos} (hK : F.K = X.K) (h : PE X (.Call (.Attribute o "extend" apos) es [] cpos) (tMe X "extend" (tE F x) (tL F l))) : PE X (.Call (.Attribute o "extend" apos) es [] cpos) (tE F (sMe (meKd .extend) (evMe .extend) x l)) := by
  refine h.imp fun σ H Q q => toMe (fun _ _ _ _ => nx_extend) (fun H μ M v V m r hk => ?_) q
  obtain ⟨i, a, rfl, rfl, vs, ha⟩ := own_list m r hk
  refine ⟨"list", "list.extend", _, PySem.F.plainAttrs_list, PySem.F.slot_list_extend, PySem.F.type_list_extend, mt_extend, .inl (.inl ⟨rfl, vs, .of ha⟩), fun H2 μ2 M2 xs ws Q x2 m2 r2 q => ?_⟩
  cases r2 with
  | nil => exact q.elim
  | @cons w W _ _ rw rr => cases rr with
    | cons _ _ => exact q.elim
    | nil =>
      cases r with
      | ref e =>
        have e2 : μ2[i]? = some a := by cases (RV.ref (K := F.K) (H := H) e).ext x2 with | ref e => exact e
        cases rw with
        | @ref j d ej =>
          obtain ⟨ys, zs, h1, h2, h3, q⟩ := mineAt_ok m2 e2 (show Ok (opt (mineAt M2 i) .no fun l => opt (mineAt M2 j) .no fun r => yes (lenOk (Nat.add (len l) (len r))) (yes (allL (mayIn F.c.b i) r) (Res.ok PV.non (put1 M2 i (.lst (app l r)))) .no) .no) _ _ from q)
          obtain ⟨ys', zs', h1', h2', h3', q⟩ := mineAt_ok m2 ej q
          obtain ⟨hl, q⟩ := yes_ok q
          obtain ⟨hm, q⟩ := yes_ok q
          rw [len_eq, len_eq] at hl
          have hl := lenOk_le (show lenOk (ys.length + ys'.length) = true from hl)
          rw [h3.length, h3'.length] at hl
          rw [allL_eq, List.all_eq_true] at hm
          unfold put1 at q
          rw [app_eq, setL_eq] at q
          have st := lst_step (ys := ys ++ ys') (ws := zs ++ zs') m2 e2 h1 h2 (fun c hc hi hx => Lows.mem.mpr fun y hy => by
            rcases List.mem_append.mp hy with hy | hy
            · exact Lows.mem.mp hx y hy
            · exact mayIn_low (hm y hy) hc hi) fun H' M' x => (h3.ext x).append (h3'.ext x)
          exact ⟨a, d, zs, zs', rfl, rfl, h2, h2', hl, q _ _ μ2 st.1 st.2 .non⟩
        | _ => exact q.elim
theorem nx_popAt {M : Mem} {v : PV} {k : Int} : NX (mePopAt M v k) := nx_onR trivial fun i => nx_opt trivial fun l => nx_yes (nx_opt trivial fun j => nx_opt trivial fun w => trivial) trivial
theorem lows_erase {c j : Nat} {xs : List PV} (h : Lows c xs) : Lows c (xs.eraseIdx j) := Lows.mem.mpr fun x hx => Lows.mem.mp h x (List.mem_of_mem_eraseIdx hx)
theorem e_pop {o : Expr} {x : Se} {apos cpos : Pos} (hK : F.K = X.K) (h : PE X (.Call (.Attribute o "pop" apos) [] [] cpos) (tMe X "pop" (tE F x) L2.tNil)) : PE X (.Call (.Attribute o "pop" apos) [] [] cpos) (tE F (sMe (meKd .pop) (evMe .pop) x lNil)) := by
  have hN : ∀ σ H Q, tMe X "pop" (tE F x) (tL F lNil) σ H Q → tMe X "pop" (tE F x) L2.tNil σ H Q := fun σ H Q q => by
    obtain ⟨μ, M, ρ, A, q⟩ := q
    refine ⟨μ, M, ρ, A, q.mono (fun v M1 q V H1 μ1 x1 m1 r1 => ?_) fun _ _ _ q => q⟩
    obtain ⟨T, id, r, h1, h2, h3, h4, h5, μ2, M2, ρ2, A2, q⟩ := q V H1 μ1 x1 m1 r1
    exact ⟨T, id, r, h1, h2, h3, h4, h5, q [] H1 μ2 .refl A2.m .nil⟩
  refine h.imp fun σ H Q q => hN σ H Q (toMe (fun _ _ _ vs => by cases vs <;> first | exact nx_popAt | exact trivial) (fun H μ M v V m r hk => ?_) q)
  obtain ⟨i, a, rfl, rfl, vs, ha⟩ := own_list m r hk
  refine ⟨"list", "list.pop", _, PySem.F.plainAttrs_list, PySem.F.slot_list_pop, PySem.F.type_list_pop, mt_pop, .inl (.inl ⟨rfl, vs, .of ha⟩), fun H2 μ2 M2 xs ws Q x2 m2 r2 q => ?_⟩
  cases r2 with
  | cons _ _ => exact q.elim
  | nil =>
    cases r with
    | ref e =>
      have e2 : μ2[i]? = some a := by cases (RV.ref (K := F.K) (H := H) e).ext x2 with | ref e => exact e
      obtain ⟨ys, zs, h1, h2, h3, q⟩ := mineAt_ok m2 e2 (show Ok (opt (mineAt M2 i) .no fun l => yes (lenOk (len l)) (opt (Ev.ixN (len l) (.negSucc 0)) .no fun j => opt (nth l j) .no fun v => Res.ok v (put1 M2 i (.lst (delL l j)))) .no) _ _ from q)
      obtain ⟨_, q⟩ := yes_ok q
      obtain ⟨j, ej, q⟩ := opt_ok q
      obtain ⟨w, ew, q⟩ := opt_ok q
      rw [len_eq] at ej
      have ej : yes (Nat.ble 1 ys.length) (some (ys.length - 1)) none = some j := ej
      obtain ⟨_, ej⟩ := yes_some ej
      rw [nth_eq] at ew
      obtain ⟨W, eW, rW⟩ := h3.get ew
      unfold put1 at q
      rw [delL_eq, setL_eq] at q
      have st := lst_step (ys := ys.eraseIdx j) (ws := zs.eraseIdx j) m2 e2 h1 h2 (fun c _ _ hx => lows_erase hx) fun H' M' x => (h3.ext x).erase j
      have e4 : zs.eraseIdx j = zs.dropLast := by
        rw [← ej, h3.length]
        exact List.eraseIdx_eq_dropLast (by
          have := (List.getElem?_eq_some_iff.mp eW).1
          omega)
      rw [e4] at st
      refine ⟨a, zs, W, rfl, rfl, h2, by rw [← h3.length, ej]; exact eW, q _ _ μ2 st.1 st.2 (rW.ext st.1)⟩
theorem e_popAt {o e : Expr} {x : Se} {l : Sl} {es : List Expr} {apos cpos : Pos} (hK : F.K = X.K) (h : PE X (.Call (.Attribute o "pop" apos) es [] cpos) (tMe X "pop" (tE F x) (tL F l))) : PE X (.Call (.Attribute o "pop" apos) es [] cpos) (tE F (sMe (meKd .popAt) (evMe .popAt) x l)) := by
  refine h.imp fun σ H Q q => toMe (fun b M v vs => show NX (m1 (fun _ M o v => v.onI .no fun k => mePopAt M o k) b M v vs) from nx_lc trivial fun x r => nx_lc (nx_onI trivial fun k => nx_popAt) fun _ _ => trivial) (fun H μ M v V m r hk => ?_) q
  obtain ⟨i, a, rfl, rfl, vs, ha⟩ := own_list m r hk
  refine ⟨"list", "list.pop", _, PySem.F.plainAttrs_list, PySem.F.slot_list_pop, PySem.F.type_list_pop, mt_popAt, .inl (.inl ⟨rfl, vs, .of ha⟩), fun H2 μ2 M2 xs ws Q x2 m2 r2 q => ?_⟩
  cases r2 with
  | nil => exact q.elim
  | @cons w W _ _ rw rr => cases rr with
    | cons _ _ => exact q.elim
    | nil =>
      cases r with
      | ref e =>
        have e2 : μ2[i]? = some a := by cases (RV.ref (K := F.K) (H := H) e).ext x2 with | ref e => exact e
        obtain ⟨k, rfl, rfl, q⟩ := onI_ok rw (show Ok (w.onI .no fun k => mePopAt M2 (.ref i) k) _ _ from q)
        obtain ⟨ys, zs, h1, h2, h3, q⟩ := mineAt_ok m2 e2 (show Ok (opt (mineAt M2 i) .no fun l => yes (lenOk (len l)) (opt (Ev.ixN (len l) k) .no fun j => opt (nth l j) .no fun v => Res.ok v (put1 M2 i (.lst (delL l j)))) .no) _ _ from q)
        obtain ⟨hz, q⟩ := yes_ok q
        obtain ⟨j, ej, q⟩ := opt_ok q
        obtain ⟨y, ew, q⟩ := opt_ok q
        rw [len_eq] at ej
        rw [nth_eq] at ew
        obtain ⟨W, eW, rW⟩ := h3.get ew
        unfold put1 at q
        rw [delL_eq, setL_eq] at q
        have st := lst_step (ys := ys.eraseIdx j) (ws := zs.eraseIdx j) m2 e2 h1 h2 (fun c _ _ hx => lows_erase hx) fun H' M' x => (h3.ext x).erase j
        have ix := (ixN_eq ej).1
        rw [h3.length] at ix
        obtain ⟨s1, s2, s3, s4⟩ := ixN_seq ix
        rw [len_eq] at hz
        have hz := lenOk_le hz
        rw [h3.length, sizeLine_eq] at hz
        exact ⟨a, zs, k, j, W, rfl, rfl, h2, by omega, by omega, s1, eW, q _ _ μ2 st.1 st.2 (rW.ext st.1)⟩
end
end Ev

set_option Elab.async false
set_option linter.all false
set_option maxRecDepth 100000
set_option maxHeartbeats 1000000
/-! Sj9: index, count, update, get. -/
namespace Ev
open PySem PySem.Spec PyProof.Rows L2
section
variable {X : Cx} {F : Fr} {pos : Pos}
theorem idxOf_ok {M : Mem} {x : PV} : ∀ {l : List PV} {k r : Nat}, idxOf M x l k = some r → ∃ j y, r = k + j ∧ l[j]? = some y ∧ PyData.eqv (pd M deep y) (pd M deep x) = true ∧ (∀ m z, m < j → l[m]? = some z → PyData.eqv (pd M deep z) (pd M deep x) = false)
  | [], _, _, h => by cases h
  | y :: l, k, r, h => by
    obtain ⟨q, e, h⟩ := opt_some' (show opt (eqV M y x) none (fun q => yes q (some k) (idxOf M x l (Nat.succ k))) = some r from h)
    obtain ⟨_, _, e3⟩ := eqV_ok e
    cases q with
    | true =>
      have h : some k = some r := h
      cases h
      exact ⟨0, y, rfl, rfl, e3.symm, fun m z hm => by omega⟩
    | false =>
      obtain ⟨j, z, e1, e2, e4, e5⟩ := idxOf_ok (show idxOf M x l (Nat.succ k) = some r from h)
      refine ⟨j + 1, z, by omega, e2, e4, fun m w hm hw => ?_⟩
      cases m with
      | zero => cases hw; exact e3.symm
      | succ m => exact e5 m w (by omega) hw
theorem cntOf_ok {M : Mem} {x : PV} : ∀ {l : List PV} {r : Nat}, cntOf M x l = some r → r = l.countP fun y => PyData.eqv (pd M deep y) (pd M deep x)
  | [], _, h => by cases h; rfl
  | y :: l, r, h => by
    obtain ⟨q, e, h⟩ := opt_some' (show opt (eqV M y x) none (fun q => yes q (opt (cntOf M x l) none fun k => some (Nat.succ k)) (cntOf M x l)) = some r from h)
    obtain ⟨_, _, e3⟩ := eqV_ok e
    rw [List.countP_cons, ← e3]
    cases q with
    | true =>
      obtain ⟨k, e4, h⟩ := opt_some' (show opt (cntOf M x l) none (fun k => some (Nat.succ k)) = some r from h)
      cases h
      rw [cntOf_ok e4]; rfl
    | false => rw [cntOf_ok (show cntOf M x l = some r from h)]; rfl
/-- a sequence's items read as data, one by one -/
theorem seq_reads {pins : List (Addr × PySem.Obj)} {σ : L2.St} {H : Hp} {s : Shared} {μ : List Addr} {M : Mem} {xs : List PV} {vs : List V} {its : List Value} (hK : F.K = X.K) (I : Inv X pins σ H s) (m : F.RM H μ M) (rl : RVs F.K H μ xs vs) (hd : ∀ x ∈ xs, data M deep x = true) (rv : Vals vs its) :
    ∃ as, ReadsAll s.heap its (xs.map (pd M deep)) as := by
  have dd : DpAll F.K H vs (xs.map (pd M deep)) := pd_all (fun h r => pd_dp m h r) hd rl
  exact Dp.readsAll I _ _ _ (hK ▸ dd) rv
theorem seq_lay {K : PySem.W.Frag} {b : Nat} {H : Hp} {μ : List Addr} {M : Mem} {xs : List PV} {vs : List V} (m : RM K b H μ M) (rl : RVs K H μ xs vs) : PyData.canLayAll0 (xs.map (pd M deep)) = true := lay_all fun z hz => by
  obtain ⟨i, hi⟩ := List.getElem?_of_mem hz
  obtain ⟨w, _, rw'⟩ := rl.get hi
  exact pd_lay m rw'
theorem seq_shaped {K : PySem.W.Frag} {b : Nat} {H : Hp} {μ : List Addr} {M : Mem} {xs : List PV} {vs : List V} (m : RM K b H μ M) (rl : RVs K H μ xs vs) : SeqAt.shaped (.list (xs.map (pd M deep))) = true := by
  have h1 : PyData.depthAll (xs.map (pd M deep)) ≤ deep := depth_all fun x _ => pd_depth
  have h2 : PyData.depth (.list (xs.map (pd M deep))) ≤ 64 := by
    show PyData.depthAll (xs.map (pd M deep)) + 1 ≤ 64
    have : deep = 60 := rfl
    omega
  show (PyData.canLayAll0 (xs.map (pd M deep)) && decide (PyData.depth (.list (xs.map (pd M deep))) ≤ 64)) = true
  rw [Bool.and_eq_true]
  exact ⟨seq_lay m rl, decide_eq_true h2⟩
theorem readsAll_at {h : Heap} {its : List Value} {ds : List PyData} {as : List Addr} (r : ReadsAll h its ds as) (l : PyData.canLayAll0 ds = true) (j : Nat) (hj : j < its.length) : ∃ hd : j < ds.length, SeqAt.readOf h its[j] = ds[j] := by
  have hm := SeqAt.readsAll_map ds its as l r
  have hl : j < ds.length := by rw [← hm, List.length_map]; exact hj
  refine ⟨hl, ?_⟩
  have e : ds[j]? = some (SeqAt.readOf h its[j]) := by rw [← hm, List.getElem?_map, List.getElem?_eq_getElem hj]; rfl
  rw [List.getElem?_eq_getElem hl] at e
  exact (Option.some.inj e).symm
/-- t.index(x), t.count(x) of a tuple of data -/
theorem run_tupIdx {pins : List (Addr × PySem.Obj)} {σ : L2.St} {H : Hp} {s : Shared} {μ : List Addr} {M : Mem} {a : Addr} {xs : List PV} {vs : List V} {w : PV} {y : V} {uy : Value} {k : Nat} {Q : Value → Shared → Prop} (hK : F.K = X.K) (hu : X.A.units + 65 < cLine) (I : Inv X pins σ H s) (m : F.RM H μ M) (hs : SqT X.K H a vs) (rl : RVs F.K H μ xs vs)
    (hd : ∀ x ∈ xs, data M deep x = true) (dw : data M deep w = true) (rw' : RV F.K H μ w y) (ry : RelV y uy) (e : idxOf M w xs 0 = some k) (q : Q (.int (k : Nat) s.toks) { s with toks := s.toks + 1 }) : wpAny (model X.prog X.w) X.A (call (.builtin "tuple.index") [.ref a, uy]) Q X.xe s := by
  obtain ⟨its, rv, ⟨⟨cls, dd, dt, sl⟩, ho, hc, n, hdt⟩, hz⟩ := I.tuple hs
  simp only at hc hdt
  subst hc hdt
  obtain ⟨as, rd⟩ := seq_reads hK I m rl hd rv
  have lay := seq_lay m rl
  obtain ⟨bs, rb⟩ := Dp.reads I _ y uy (hK ▸ pd_dp m dw rw') ry
  obtain ⟨j, z, e1, e2, e3, e4⟩ := idxOf_ok e
  have ek : k = j := by omega
  subst ek
  have hl : its.length = xs.length := by rw [← rv.length, rl.length]
  have hj : k < its.length := by rw [hl]; exact (List.getElem?_eq_some_iff.mp e2).1
  have at_ : ∀ (i : Nat) (hi : i < its.length) (x : PV), xs[i]? = some x → SeqAt.readOf s.heap its[i] = pd M deep x := fun i hi x hx => by
    obtain ⟨h1, h2⟩ := readsAll_at rd lay i hi
    rw [h2]
    obtain ⟨h3, rfl⟩ := List.getElem?_eq_some_iff.mp hx
    rw [List.getElem_map]
  refine call_meets PySem.F.slot_tuple_index ⟨_, ho, rfl⟩ PySem.F.entry_tuple_index (PySem.F.args_tuple_index_2 _ _)
    (TI.tuple_indexAt a its.toArray n dd sl uy (fun u => PyData.eqv (SeqAt.readOf s.heap u) (pd M deep w)) k (by simpa using hj) ?_ ?_) ⟨ho, SeqAt.items_eqAt (vs := its.toArray) (show ReadsAll s.heap its.toArray.toList _ as from rd) rb lay (pd_lay m rw') (room_pd hu), q⟩
  · show PyData.eqv (SeqAt.readOf s.heap its.toArray[k]) _ = true
    have : its.toArray[k]'(by simpa using hj) = its[k] := by simp
    rw [this, at_ k hj z e2]
    exact e3
  · intro i hi hlt
    have hi' : i < its.length := by simpa using hi
    have hx : i < xs.length := by rw [← hl]; exact hi'
    show PyData.eqv (SeqAt.readOf s.heap its.toArray[i]) _ = false
    have : its.toArray[i] = its[i] := by simp
    rw [this, at_ i hi' xs[i] (List.getElem?_eq_getElem hx)]
    exact e4 i _ hlt (List.getElem?_eq_getElem hx)
theorem count_map {h : Heap} {M : Mem} {w : PV} : ∀ {its : List Value} {xs : List PV} {as : List Addr}, ReadsAll h its (xs.map (pd M deep)) as → PyData.canLayAll0 (xs.map (pd M deep)) = true → its.countP (fun u => PyData.eqv (SeqAt.readOf h u) (pd M deep w)) = xs.countP fun y => PyData.eqv (pd M deep y) (pd M deep w) := fun {its xs as} r l => by
  have hm := SeqAt.readsAll_map _ its as l r
  have e : (its.map (SeqAt.readOf h)).countP (fun d => PyData.eqv d (pd M deep w)) = (xs.map (pd M deep)).countP fun d => PyData.eqv d (pd M deep w) := by rw [hm]
  rw [List.countP_map, List.countP_map] at e
  exact e
theorem run_count {pins : List (Addr × PySem.Obj)} {σ : L2.St} {H : Hp} {s : Shared} {μ : List Addr} {M : Mem} {a : Addr} {xs : List PV} {vs : List V} {w : PV} {y : V} {uy : Value} {k : Nat} {Q : Value → Shared → Prop} (hK : F.K = X.K) (hu : X.A.units + 65 < cLine) (I : Inv X pins σ H s) (m : F.RM H μ M) (rl : RVs F.K H μ xs vs)
    (hd : ∀ x ∈ xs, data M deep x = true) (dw : data M deep w = true) (rw' : RV F.K H μ w y) (ry : RelV y uy) (e : cntOf M w xs = some k) (q : Q (.int (k : Nat) s.toks) { s with toks := s.toks + 1 }) :
    (SqT X.K H a vs → wpAny (model X.prog X.w) X.A (call (.builtin "tuple.count") [.ref a, uy]) Q X.xe s) ∧ (SqL X.K H a vs → wpAny (model X.prog X.w) X.A (call (.builtin "list.count") [.ref a, uy]) Q X.xe s) := by
  have lay := seq_lay m rl
  obtain ⟨bs, rb⟩ := Dp.reads I _ y uy (hK ▸ pd_dp m dw rw') ry
  have ek := cntOf_ok e
  constructor
  · intro hs
    obtain ⟨its, rv, ⟨⟨cls, dd, dt, sl⟩, ho, hc, n, hdt⟩, hz⟩ := I.tuple hs
    simp only at hc hdt
    subst hc hdt
    obtain ⟨as, rd⟩ := seq_reads hK I m rl hd rv
    have ec := count_map (w := w) rd lay
    refine call_meets PySem.F.slot_tuple_count ⟨_, ho, rfl⟩ PySem.F.entry_tuple_count (PySem.F.args_tuple_count_2 _ _)
      (SeqAt.tuple_countAt a its.toArray n dd sl uy (fun u => PyData.eqv (SeqAt.readOf s.heap u) (pd M deep w))) ⟨ho, SeqAt.items_eqAt (vs := its.toArray) (show ReadsAll s.heap its.toArray.toList _ as from rd) rb lay (pd_lay m rw') (room_pd hu), ?_⟩
    have e2 : its.toArray.toList.countP (fun u => PyData.eqv (SeqAt.readOf s.heap u) (pd M deep w)) = k := by rw [ek]; exact ec
    rw [e2]
    exact q
  · intro hs
    obtain ⟨its, rv, ⟨⟨cls, dd, dt, sl⟩, n, ho, hc, hdn, hdt⟩, hz⟩ := I.list hs
    simp only at hc hdt
    subst hc hdt
    obtain ⟨as, rd⟩ := seq_reads hK I m rl hd rv
    have ec := count_map (w := w) rd lay
    refine call_meets PySem.F.slot_list_count ⟨_, ho, rfl⟩ PySem.F.entry_list_count (PySem.F.args_list_count_2 _ _)
      (SeqAt.list_countAt a its.toArray n dd sl uy (fun u => PyData.eqv (SeqAt.readOf s.heap u) (pd M deep w))) ⟨ho, SeqAt.items_eqAt (vs := its.toArray) (show ReadsAll s.heap its.toArray.toList _ as from rd) rb lay (pd_lay m rw') (room_pd hu), ?_⟩
    have e2 : its.toArray.toList.countP (fun u => PyData.eqv (SeqAt.readOf s.heap u) (pd M deep w)) = k := by rw [ek]; exact ec
    rw [e2]
    exact q
theorem allL_mem {α : Type} {p : α → Bool} {l : List α} (h : allL p l = true) : ∀ x ∈ l, p x = true := by rw [allL_eq, List.all_eq_true] at h; exact h
/-- the reading of index and count of a receiver of one kind -/
def rSeqM (F : Fr) (X : Cx) (tup : Bool) (f : Mem → PV → PV → Res PV) : V → List V → Hp → VK → Prop := fun x xs H Q => ∃ (a : Addr) (y : V) (μ : List Addr) (M : Mem) (v w : PV) (l : List PV) (vs : List V), x = .ref a ∧ xs = [y] ∧ F.RM H μ M ∧ RV F.K H μ v (.ref a) ∧ RV F.K H μ w y ∧ seqOf M v = some l ∧ RVs F.K H μ l vs ∧
  (if tup = true then SqT X.K H a vs else SqL X.K H a vs) ∧ Ok (f M v w) (F.Gd H μ M Q) fun _ _ _ => False
theorem m_tupIdx (hK : F.K = X.K) (hu : X.A.units + 65 < cLine) : MtR X "tuple.index" (rSeqM F X true meIndex) := by
  intro pins s σ H x xs v us Q I rx rs h
  obtain ⟨a, y, μ, M, vo, w, l, vs, rfl, rfl, m, rv, rw', el, rl, hs, q⟩ := h
  cases rx
  obtain ⟨uy, rfl, ry⟩ := rs.one
  obtain ⟨l', e1, q⟩ := opt_ok q
  rw [el] at e1; cases e1
  obtain ⟨dw, q⟩ := yes_ok q
  obtain ⟨dl, q⟩ := yes_ok q
  obtain ⟨k, ek, q⟩ := opt_ok q
  exact run_tupIdx hK hu I m hs rl (allL_mem dl) dw rw' ry ek ⟨.int (k : Nat), H, I.tok _, ⟨_, rfl⟩, q _ H μ .refl m (.int _)⟩
theorem m_lstIdx (hK : F.K = X.K) (hu : X.A.units + 65 < cLine) : MtR X "list.index" (rSeqM F X false meIndex) := by
  intro pins s σ H x xs v us Q I rx rs h
  obtain ⟨a, y, μ, M, vo, w, l, vs, rfl, rfl, m, rv, rw', el, rl, hs, q⟩ := h
  obtain ⟨l', e1, q⟩ := opt_ok q
  rw [el] at e1; cases e1
  obtain ⟨dw, q⟩ := yes_ok q
  obtain ⟨dl, q⟩ := yes_ok q
  obtain ⟨k, ek, q⟩ := opt_ok q
  obtain ⟨j, z, e1, e2, e3, e4⟩ := idxOf_ok ek
  have ek : k = j := by omega
  subst ek
  have dd : DpAll F.K H vs (l.map (pd M deep)) := pd_all (fun h r => pd_dp m h r) (allL_mem dl) rl
  refine mt_indexD hu pins s σ H _ _ v us Q I rx rs ⟨a, y, pd M deep w, l.map (pd M deep), k, pd M deep z, rfl, rfl, .lst hs (hK ▸ dd), hK ▸ pd_dp m dw rw', seq_shaped m rl, pd_shaped m rw', ?_, e3, fun i z' hi hz => ?_, q _ H μ .refl m (.int _)⟩
  · rw [List.getElem?_map, e2]; rfl
  · rw [List.getElem?_map] at hz
    cases e5 : l[i]? with
    | none => rw [e5] at hz; cases hz
    | some x => rw [e5] at hz; cases hz; exact e4 i x hi e5
theorem m_tupCnt (hK : F.K = X.K) (hu : X.A.units + 65 < cLine) : MtR X "tuple.count" (rSeqM F X true meCount) := by
  intro pins s σ H x xs v us Q I rx rs h
  obtain ⟨a, y, μ, M, vo, w, l, vs, rfl, rfl, m, rv, rw', el, rl, hs, q⟩ := h
  cases rx
  obtain ⟨uy, rfl, ry⟩ := rs.one
  obtain ⟨l', e1, q⟩ := opt_ok q
  rw [el] at e1; cases e1
  obtain ⟨dw, q⟩ := yes_ok q
  obtain ⟨dl, q⟩ := yes_ok q
  obtain ⟨k, ek, q⟩ := opt_ok q
  exact (run_count (a := a) hK hu I m rl (allL_mem dl) dw rw' ry ek (Q := EP X pins σ Q) ⟨.int (k : Nat), H, I.tok _, ⟨_, rfl⟩, q _ H μ .refl m (.int _)⟩).1 hs
theorem m_lstCnt (hK : F.K = X.K) (hu : X.A.units + 65 < cLine) : MtR X "list.count" (rSeqM F X false meCount) := by
  intro pins s σ H x xs v us Q I rx rs h
  obtain ⟨a, y, μ, M, vo, w, l, vs, rfl, rfl, m, rv, rw', el, rl, hs, q⟩ := h
  cases rx
  obtain ⟨uy, rfl, ry⟩ := rs.one
  obtain ⟨l', e1, q⟩ := opt_ok q
  rw [el] at e1; cases e1
  obtain ⟨dw, q⟩ := yes_ok q
  obtain ⟨dl, q⟩ := yes_ok q
  obtain ⟨k, ek, q⟩ := opt_ok q
  exact (run_count (a := a) hK hu I m rl (allL_mem dl) dw rw' ry ek (Q := EP X pins σ Q) ⟨.int (k : Nat), H, I.tok _, ⟨_, rfl⟩, q _ H μ .refl m (.int _)⟩).2 hs
theorem nx_seqM {f : Mem → PV → PV → Res PV} (n : ∀ M v w, NX (f M v w)) {b : Nat} {M : Mem} {v : PV} {vs : List PV} : NX (m1 (fun _ => f) b M v vs) := nx_lc trivial fun x r => nx_lc (n M v x) fun _ _ => trivial
theorem nx_index {M : Mem} {v w : PV} : NX (meIndex M v w) := nx_opt trivial fun l => nx_yes (nx_yes (nx_opt trivial fun k => trivial) trivial) trivial
theorem nx_count {M : Mem} {v w : PV} : NX (meCount M v w) := nx_opt trivial fun l => nx_yes (nx_yes (nx_opt trivial fun k => trivial) trivial) trivial
theorem seqM_kd {f : Mem → PV → PV → Res PV} {idT idL : String} {name : Str} (paT : PlainAttrs "tuple") (slT : Slot "tuple" name idT) (tyT : typeOf (.builtin idT) = pure (.type "method_descriptor")) (slL : Slot "list" name idL) (tyL : typeOf (.builtin idL) = pure (.type "method_descriptor")) (hK : F.K = X.K)
    (hT : MtR X idT (rSeqM F X true f)) (hL : MtR X idL (rSeqM F X false f)) (sq : ∀ M v w, Ok (f M v w) (fun _ _ => True) (fun _ _ _ => False) → ∃ l, seqOf M v = some l) (H : Hp) (μ : List Addr) (M : Mem) (v : PV) (x : V) (m : F.RM H μ M) (r : RV F.K H μ v x)
    (hk : (v.el false (fun _ => false) (fun _ => false) (fun _ => false) (fun _ => v.onTF false fun f _ => f) (fun i => some? (lstAt M i)) fun _ => false) = true) : ∃ (T id : String) (r : V → List V → Hp → VK → Prop), PlainAttrs T ∧ Slot T name id ∧ typeOf (.builtin id) = pure (.type "method_descriptor") ∧ MtR X id r ∧
      (tyV X.K T x H ∨ (T = "tuple" ∧ ∃ a vs, x = .ref a ∧ TupAt true H a vs)) ∧ ∀ (H2 : Hp) (μ2 : List Addr) (M2 : Mem) (xs : List V) (vs : List PV) (Q : VK), F.Ext H μ M H2 μ2 M2 → F.RM H2 μ2 M2 → RVs F.K H2 μ2 vs xs → Ok (m1 (fun _ => f) F.c.b M2 v vs) (F.Gd H2 μ2 M2 Q) (fun _ _ _ => False) → r x xs H2 Q := by
  cases r with
  | @tup k a xs vs st l =>
    have hk : k = true := hk
    subst hk
    refine ⟨"tuple", idT, _, paT, slT, tyT, hT, .inr ⟨rfl, a, vs, rfl, st⟩, fun H2 μ2 M2 zs ws Q x2 m2 r2 q => ?_⟩
    cases r2 with
    | nil => exact q.elim
    | @cons w W _ _ rw rr => cases rr with
      | cons _ _ => exact q.elim
      | nil => exact ⟨a, W, μ2, M2, .tup true xs, w, xs, vs, rfl, rfl, m2, (RV.tup st l).ext x2, rw, rfl, l.ext x2, hK ▸ (x2.tupF st).sq, q⟩
  | @ref i a e =>
    have hk : some? (lstAt M i) = true := hk
    cases hl : lstAt M i with
    | none => rw [hl] at hk; cases hk
    | some xs =>
      obtain ⟨vs, h1, h2⟩ := lstAt_sq m e hl
      refine ⟨"list", idL, _, PySem.F.plainAttrs_list, slL, tyL, hL, .inl (.inl ⟨rfl, vs, hK ▸ h1⟩), fun H2 μ2 M2 zs ws Q x2 m2 r2 q => ?_⟩
      cases r2 with
      | nil => exact q.elim
      | @cons w W _ _ rw rr => cases rr with
        | cons _ _ => exact q.elim
        | nil =>
          have q : Ok (f M2 (.ref i) w) (F.Gd H2 μ2 M2 Q) (fun _ _ _ => False) := q
          obtain ⟨l2, e2⟩ := sq _ _ _ (q.mono (fun _ _ _ => trivial) fun _ _ _ h => h)
          have e3 : μ2[i]? = some a := by cases (RV.ref (K := F.K) (H := H) e).ext x2 with | ref e => exact e
          obtain ⟨vs2, h3, h4⟩ := lstAt_sq m2 e3 (show lstAt M2 i = some l2 from e2)
          exact ⟨a, W, μ2, M2, .ref i, w, l2, vs2, rfl, rfl, m2, .ref e3, rw, e2, h4, hK ▸ h3, q⟩
  | _ => cases hk
theorem sq_index {M : Mem} {v w : PV} (h : Ok (meIndex M v w) (fun _ _ => True) (fun _ _ _ => False)) : ∃ l, seqOf M v = some l := let ⟨l, e, _⟩ := opt_ok h; ⟨l, e⟩
theorem sq_count {M : Mem} {v w : PV} (h : Ok (meCount M v w) (fun _ _ => True) (fun _ _ _ => False)) : ∃ l, seqOf M v = some l := let ⟨l, e, _⟩ := opt_ok h; ⟨l, e⟩
theorem e_index {o e : Expr} {x : Se} {l : Sl} {es : List Expr} {apos cpos : Pos} (hK : F.K = X.K) (hu : X.A.units + 65 < cLine) (h : PE X (.Call (.Attribute o "index" apos) es [] cpos) (tMe X "index" (tE F x) (tL F l))) : PE X (.Call (.Attribute o "index" apos) es [] cpos) (tE F (sMe (meKd .index) (evMe .index) x l)) :=
  h.imp fun σ H Q q => toMe (fun b M v vs => show NX (m1 (fun _ => meIndex) b M v vs) from nx_seqM (fun _ _ _ => nx_index)) (fun H μ M v V m r hk => seqM_kd (f := meIndex) PySem.F.plainAttrs_tuple PySem.F.slot_tuple_index PySem.F.type_tuple_index PySem.F.slot_list_index PySem.F.type_list_index hK (m_tupIdx hK hu) (m_lstIdx hK hu) (fun _ _ _ => sq_index) H μ M v V m r hk) q
theorem e_count {o e : Expr} {x : Se} {l : Sl} {es : List Expr} {apos cpos : Pos} (hK : F.K = X.K) (hu : X.A.units + 65 < cLine) (h : PE X (.Call (.Attribute o "count" apos) es [] cpos) (tMe X "count" (tE F x) (tL F l))) : PE X (.Call (.Attribute o "count" apos) es [] cpos) (tE F (sMe (meKd .count) (evMe .count) x l)) :=
  h.imp fun σ H Q q => toMe (fun b M v vs => show NX (m1 (fun _ => meCount) b M v vs) from nx_seqM (fun _ _ _ => nx_count)) (fun H μ M v V m r hk => seqM_kd (f := meCount) PySem.F.plainAttrs_tuple PySem.F.slot_tuple_count PySem.F.type_tuple_count PySem.F.slot_list_count PySem.F.type_list_count hK (m_tupCnt hK hu) (m_lstCnt hK hu) (fun _ _ _ => sq_count) H μ M v V m r hk) q
end
end Ev

set_option Elab.async false
set_option linter.all false
set_option maxRecDepth 100000
set_option maxHeartbeats 1000000
/-! Sk1: repr(..) compared. -/
namespace Ev
open PySem PySem.Spec PyProof.Rows L2
/-- what a value without references reads as -/
noncomputable def sd : Nat → PV → PyData
  | 0, _ => .none
  | n + 1, v => match v with
    | .non => .none | .bl b => .bool b | .int i => .int i | .str s => .str (txt s)
    | .tup f xs => (match f with | false => .tuple (xs.map (sd n)) | true => .list (xs.map (sd n)))
    | .ref _ => .none | .fn _ => .none
theorem mapO_ok {α β : Type} {f : α → Option β} : ∀ {l : List α} {ys : List β}, mapO f l = some ys → l.length = ys.length ∧ ∀ (i : Nat) (x : α), l[i]? = some x → ∃ y : β, ys[i]? = some y ∧ f x = some y
  | [], _, h => by cases h; exact ⟨rfl, fun _ _ h => by simp at h⟩
  | x :: l, ys, h => by
    obtain ⟨y, e, h⟩ := opt_some' (show opt (f x) none (fun y => opt (mapO f l) none fun ys => some (y :: ys)) = some ys from h)
    obtain ⟨zs, e2, h⟩ := opt_some' h
    cases h
    obtain ⟨h1, h2⟩ := mapO_ok e2
    refine ⟨congrArg Nat.succ h1, fun i z hz => ?_⟩
    cases i with
    | zero => cases hz; exact ⟨y, rfl, e⟩
    | succ i => exact h2 i z hz
theorem mapO_map {α β γ : Type} {f : α → Option β} {g : α → γ} {k : β → γ} (ih : ∀ x y, f x = some y → g x = k y) : ∀ {l : List α} {ys : List β}, mapO f l = some ys → l.map g = ys.map k
  | [], _, h => by cases h; rfl
  | x :: l, ys, h => by
    obtain ⟨y, e, h⟩ := opt_some' (show opt (f x) none (fun y => opt (mapO f l) none fun ys => some (y :: ys)) = some ys from h)
    obtain ⟨zs, e2, h⟩ := opt_some' h
    cases h
    rw [List.map_cons, List.map_cons, ih x y e, mapO_map ih e2]
theorem snap_data {M : Mem} : ∀ {n : Nat} {v t : PV}, snap M n v = some t → data M n v = true
  | 0, _, _, h => by cases h
  | n + 1, v, t, h => by
    have al : ∀ {xs ys : List PV}, mapO (snap M n) xs = some ys → allL (data M n) xs = true := fun {xs ys} h => by
      rw [allL_eq, List.all_eq_true]
      intro x hx
      obtain ⟨i, hi⟩ := List.getElem?_of_mem hx
      obtain ⟨y, _, e⟩ := (mapO_ok h).2 i x hi
      exact snap_data e
    cases v with
    | non => rfl
    | bl k => rfl
    | int i => rfl
    | str s => rfl
    | fn k => cases h
    | tup f xs =>
      obtain ⟨ys, e, _⟩ := opt_some' (show opt (mapO (snap M n) xs) none (fun ys => some (.tup false ys)) = some t from h)
      exact al e
    | ref i =>
      obtain ⟨xs, e1, h⟩ := opt_some' (show opt (lstAt M i) none (fun xs => opt (mapO (snap M n) xs) none fun ys => some (.tup true ys)) = some t from h)
      obtain ⟨ys, e2, _⟩ := opt_some' h
      show opt (lstAt M i) false (fun xs => allL (data M n) xs) = true
      rw [e1]
      exact al e2
theorem snap_pd {M : Mem} : ∀ {n : Nat} {v t : PV}, snap M n v = some t → pd M n v = sd n t
  | 0, _, _, _ => rfl
  | n + 1, v, t, h => by
    cases v with
    | non => cases h; rfl
    | bl k => cases h; rfl
    | int i =>
      obtain ⟨_, e⟩ := yes_some' (show yes (Nat.ble i.natAbs 999999999999) (some (PV.int i)) none = some t from h)
      cases e; rfl
    | str s => cases h; rfl
    | fn k => cases h
    | tup f xs =>
      obtain ⟨ys, e, h⟩ := opt_some' (show opt (mapO (snap M n) xs) none (fun ys => some (.tup false ys)) = some t from h)
      cases h
      show PyData.tuple _ = PyData.tuple _
      rw [mapO_map (fun x y h => snap_pd h) e]
    | ref i =>
      obtain ⟨xs, e1, h⟩ := opt_some' (show opt (lstAt M i) none (fun xs => opt (mapO (snap M n) xs) none fun ys => some (.tup true ys)) = some t from h)
      obtain ⟨ys, e2, h⟩ := opt_some' h
      cases h
      have e : pd M (n + 1) (.ref i) = .list (xs.map (pd M n)) := by
        show (match lstAt M i with | some xs => PyData.list (xs.map (pd M n)) | none => .none) = _
        rw [e1]
      rw [e]
      show PyData.list _ = PyData.list _
      rw [mapO_map (fun x y h => snap_pd h) e2]
/-- bounds of what is shown -/
theorem sd_small {M : Mem} : ∀ {n : Nat} {v t : PV}, snap M n v = some t → (sd n t).showable = true ∧ (sd n t).intsShort 13 = true ∧ (sd n t).weight ≤ bulkT n t ∧ (sd n t).hasDict = false
  | 0, _, _, _ => ⟨rfl, rfl, Nat.zero_le _, rfl⟩
  | n + 1, v, t, h => by
    have al : ∀ {xs ys : List PV}, mapO (snap M n) xs = some ys → PyData.showableAll (ys.map (sd n)) = true ∧ PyData.intsShortAll 13 (ys.map (sd n)) = true ∧ PyData.weightAll (ys.map (sd n)) ≤ lr 0 (fun x _ r => Nat.add (Nat.succ (bulkT n x)) r) ys ∧ PyData.hasDictAll (ys.map (sd n)) = false := by
      intro xs
      induction xs with
      | nil => intro ys h; cases h; exact ⟨rfl, rfl, Nat.zero_le _, rfl⟩
      | cons x xs ih =>
        intro ys h
        obtain ⟨y, e, h⟩ := opt_some' (show opt (snap M n x) none (fun y => opt (mapO (snap M n) xs) none fun ys => some (y :: ys)) = some ys from h)
        obtain ⟨zs, e2, h⟩ := opt_some' h
        cases h
        obtain ⟨a1, a2, a3, a4⟩ := ih e2
        obtain ⟨b1, b2, b3, b4⟩ := sd_small e
        refine ⟨?_, ?_, ?_, ?_⟩
        · show (PyData.showable _ && PyData.showableAll _) = true; rw [b1, a1]; rfl
        · show (PyData.intsShort 13 _ && PyData.intsShortAll 13 _) = true; rw [b2, a2]; rfl
        · show PyData.weight _ + 1 + PyData.weightAll _ ≤ Nat.succ (bulkT n y) + lr 0 (fun x _ r => Nat.add (Nat.succ (bulkT n x)) r) zs
          omega
        · show (PyData.hasDict _ || PyData.hasDictAll _) = false; rw [b4, a4]; rfl
    cases v with
    | non => cases h; exact ⟨rfl, rfl, Nat.le_refl _, rfl⟩
    | bl k => cases h; exact ⟨rfl, rfl, Nat.le_refl _, rfl⟩
    | int i =>
      obtain ⟨hb, e⟩ := yes_some' (show yes (Nat.ble i.natAbs 999999999999) (some (PV.int i)) none = some t from h)
      cases e
      rw [natBle] at hb
      have hl : i.natAbs.log2 < 40 ∨ i.natAbs = 0 := by
        by_cases z : i.natAbs = 0
        · exact .inr z
        · exact .inl ((Nat.log2_lt z).mpr (by omega))
      refine ⟨?_, ?_, ?_, rfl⟩
      · show decide (i.natAbs.log2 < 1920) = true
        rcases hl with h | h
        · exact decide_eq_true (by omega)
        · rw [h]; exact decide_eq_true (by decide)
      · show decide ((PyData.shown (.int i)).length ≤ 13) = true
        exact decide_eq_true (PyData.shown_int_le (by omega))
      · show (if i == 0 then 0 else i.natAbs.log2 + 1) ≤ 41
        split
        · omega
        · rcases hl with h | h
          · omega
          · rw [h]; decide
    | str s => cases h; exact ⟨rfl, rfl, by show (txt s).cps.size ≤ len s; rw [len_eq]; exact Nat.le_refl _, rfl⟩
    | fn k => cases h
    | tup f xs =>
      obtain ⟨ys, e, h⟩ := opt_some' (show opt (mapO (snap M n) xs) none (fun ys => some (.tup false ys)) = some t from h)
      cases h
      exact al e
    | ref i =>
      obtain ⟨xs, e1, h⟩ := opt_some' (show opt (lstAt M i) none (fun xs => opt (mapO (snap M n) xs) none fun ys => some (.tup true ys)) = some t from h)
      obtain ⟨ys, e2, h⟩ := opt_some' h
      cases h
      exact al e2
theorem eqAll_list {f : PV → PV → Bool} (ih : ∀ x y, f x y = true → x = y) : ∀ {xs ys : List PV}, eqAllF f xs ys = true → xs = ys
  | [], [], _ => rfl
  | [], _ :: _, h => by cases h
  | _ :: _, [], h => by cases h
  | x :: xs, y :: ys, h => by
    have h : yes (f x y) (eqAllF f xs ys) false = true := h
    rw [yes_and, Bool.and_eq_true] at h
    rw [ih x y h.1, eqAll_list ih h.2]
theorem eqT_eq : ∀ {n : Nat} {t u : PV}, eqT n t u = true → t = u
  | 0, _, _, h => by cases h
  | n + 1, t, u, h => by
    cases t with
    | non => cases u <;> first | rfl | cases h
    | bl p => cases u with
      | bl q => cases p <;> cases q <;> first | rfl | cases h
      | _ => cases h
    | int i => cases u with
      | int j =>
        have h : intEq i j = true := h
        rw [intEq_iff, beq_iff_eq] at h
        rw [h]
      | _ => cases h
    | str s => cases u with
      | str s' =>
        have h : strEq s s' = true := h
        rw [strEq_iff, decide_eq_true_iff] at h
        rw [h]
      | _ => cases h
    | tup f xs => cases u with
      | tup g ys =>
        have h : yes (yes f g (yes g false true)) (eqAllF (eqT n) xs ys) false = true := h
        rw [yes_and, Bool.and_eq_true] at h
        have hf : f = g := by obtain ⟨h1, _⟩ := h; cases f <;> cases g <;> first | rfl | cases h1
        rw [hf, eqAll_list (fun x y => eqT_eq) h.2]
      | _ => cases h
    | ref i => cases h
    | fn k => cases h
theorem hasDict_no {d : PyData} {as : List Addr} (h : d.hasDict = false) : d.hasDict = true → sysModules ∉ as := fun e => by rw [h] at e; cases e
section
variable {X : Cx} {F : Fr} {pos : Pos}
/-- repr(x), x data -/
def rRepr (K : PySem.W.Frag) : List V → Hp → VK → Prop := fun xs H Q => ∃ (x : V) (d : PyData), xs = [x] ∧ Dp K H x d ∧ d.showable = true ∧ d.hasDict = false ∧ d.shown.length ≤ sizeLine ∧ d.depth ≤ 60 ∧ Q (.str d.shown) H
theorem call_repr (hg : X.A.guards = some []) (hu : X.A.units + 65 < cLine) : CallR X (.builtin "repr") (rRepr X.K) := by
  intro pins s σ H xs us Q I r h
  obtain ⟨x, d, rfl, hd, h1, h2, h3, h4, q⟩ := h
  obtain ⟨u, rfl, ru⟩ := r.one
  obtain ⟨as, rd⟩ := Dp.reads I d x u hd ru
  have fin : ∀ h' t tk, (∀ b o, s.heap.get? b = some o → h'.get? b = some o) → EP X pins σ Q (.str d.shown t) { s with heap := h', toks := tk } := fun h' t tk hk => ⟨.str d.shown, H, I.kept hk, ⟨t, rfl⟩, q⟩
  cases hd with
  | non => cases ru; exact PySem.P.repr_of_none (fin _ _ _ fun _ _ e => e)
  | bl k => cases ru; exact PySem.P.repr_of_bool (by cases k <;> exact fin s.heap _ _ fun _ _ e => e)
  | int i => obtain ⟨t, rfl⟩ := ru; exact PySem.P.repr_of_int (of_decide_eq_true h1) (fin _ _ _ fun _ _ e => e)
  | str z => obtain ⟨t, rfl⟩ := ru; exact PySem.P.repr_of_str (fin _ _ _ fun _ _ e => e) h3
  | lst _ _ => cases ru; exact repr_of_reads' rd h1 (hasDict_no h2) hg (by omega) (fun _ _ e => e) (fun h' t tk hk => fin h' t tk hk) h3
  | tup _ _ => cases ru; exact repr_of_reads' rd h1 (hasDict_no h2) hg (by omega) (fun _ _ e => e) (fun h' t tk hk => fin h' t tk hk) h3
theorem snapT_ok {K : PySem.W.Frag} {b : Nat} {H : Hp} {μ : List Addr} {M : Mem} {v t : PV} {V : L2.V} (m : RM K b H μ M) (r : RV K H μ v V) (h : snapT M v = some t) : Dp K H V (sd deep t) ∧ (sd deep t).showable = true ∧ (sd deep t).hasDict = false ∧ (sd deep t).shown.length ≤ sizeLine ∧ (sd deep t).depth ≤ 60 := by
  obtain ⟨t', e, h⟩ := opt_some' (show opt (snap M deep v) none (fun t => yes (Nat.ble (bulkT deep t) 1000000) (some t) none) = some t from h)
  obtain ⟨hb, h⟩ := yes_some' h
  cases h
  rw [natBle] at hb
  have e2 := snap_pd e
  obtain ⟨h1, h2, h3, h4⟩ := sd_small e
  have hd := pd_dp m (snap_data e) r
  have lay := pd_lay m (n := deep) r
  have dep : (pd M deep v).depth ≤ deep := pd_depth
  rw [e2] at hd lay dep
  exact ⟨hd, h1, h4, PyData.shown_fits (B := 13) (by decide) (by decide) (PyData.leavesShort_of_canLay0 13 _ lay h2) (by omega), dep⟩
/-- a bool, if anything -/
def IsB (z : Se) : Prop := ∀ (c : Fx) (ρ : Rho) (M : Mem) (G : PV → Mem → Prop) (E : Nat → List PV → Mem → Prop), Ok (z c ρ M) G E → Ok (z c ρ M) (fun r M' => (∃ k, r = .bl k) ∧ G r M') E
theorem tX_tE {z : Se} (nb : IsB z) {σ : L2.St} {H : Hp} {Q : Bool → Hp → Prop} (q : tX F z σ H Q) : tE F z σ H fun v H' => ∃ k, v = .bl k ∧ Q k H' := by
  obtain ⟨μ, M, ρ, A, q⟩ := q
  refine ⟨μ, M, ρ, A, (nb _ _ _ _ _ q).mono (fun r M' q V H3 μ3 x3 m3 r3 => ?_) fun _ _ _ q => q⟩
  obtain ⟨⟨k, rfl⟩, q⟩ := q
  cases r3
  obtain ⟨k', h1, h2⟩ := q H3 μ3 x3 m3
  cases h1
  exact ⟨k, rfl, h2⟩
theorem bl_cmpR {ne : Bool} {x y : Se} : IsB (sCmpR ne x y) := fun c ρ M G E h => by
  have h : Ok ((x c ρ M).bind fun v M1 => opt (snapT M1 v) Res.no fun t => (y c ρ M1).bind fun w M2 => opt (snapT M2 w) Res.no fun u => yes (eqT deep t u) (Res.ok (PV.bl (no? ne)) M2) Res.no) G E := h
  show Ok ((x c ρ M).bind fun v M1 => opt (snapT M1 v) Res.no fun t => (y c ρ M1).bind fun w M2 => opt (snapT M2 w) Res.no fun u => yes (eqT deep t u) (Res.ok (PV.bl (no? ne)) M2) Res.no) _ E
  refine Ok.bind.mpr ((Ok.bind.mp h).mono (fun v M1 q => ?_) fun _ _ _ q => q)
  obtain ⟨t, et, q⟩ := opt_ok q
  rw [et]
  refine Ok.bind.mpr ((Ok.bind.mp q).mono (fun w M2 q => ?_) fun _ _ _ q => q)
  obtain ⟨u, eu, q⟩ := opt_ok q
  obtain ⟨he, q⟩ := yes_ok q
  rw [eu]
  show Ok (yes (eqT deep t u) (Res.ok (PV.bl (no? ne)) M2) Res.no) _ E
  rw [he]
  exact ⟨⟨_, rfl⟩, q⟩
theorem cmpR_parts {e1 e2 : Expr} {x y : Se} {ne : Bool} {p1 p2 p3 p4 : Pos} (hK : F.K = X.K) (hgd : X.A.guards = some []) (hu : X.A.units + 65 < cLine) (hg : Gl X "repr") (hm : X.mg "repr" = none)
    (h1 : PE X e1 (tE F x)) (h2 : PE X e2 (tE F y)) (hs1 : starEach [e1] X.env = (false, eval e1 X.env) :: starEach [] X.env) (hs2 : starEach [e2] X.env = (false, eval e2 X.env) :: starEach [] X.env) :
    ∃ t1 t2, PE X (.Call (.Name "repr" p1) [e1] [] p2) t1 ∧ PE X (.Call (.Name "repr" p3) [e2] [] p4) t2 ∧ ∀ (r : L2.R2), (∀ (z : Str) (H : Hp) (Q : VK), Q (.bl (!ne)) H → r (.str z) (.str z) H Q) → ∀ σ H Q, tE F (sCmpR ne x y) σ H Q → tOp r t1 t2 σ H Q := by
  have q1 := pe_callB (p := p1) (pos := p2) (call_repr hgd hu) hg hm boot_repr (pa_cons h1 pa_nil hs1) (by decide) (by decide) hs1 (by rfl)
  have q2 := pe_callB (p := p3) (pos := p4) (call_repr hgd hu) hg hm boot_repr (pa_cons h2 pa_nil hs2) (by decide) (by decide) hs2 (by rfl)
  refine ⟨_, _, q1, q2, fun r hr σ H Q q => ?_⟩
  obtain ⟨μ, M, ρ, A, q⟩ := q
  refine ⟨μ, M, ρ, A, (Ok.bind.mp q).mono (fun v M1 q V H1 μ1 x1 m1 r1 => ?_) fun _ _ _ q => q⟩
  obtain ⟨t, et, q⟩ := opt_ok q
  obtain ⟨d1, s1, s2, s3, s4⟩ := snapT_ok m1 r1 et
  refine ⟨V, sd deep t, rfl, hK ▸ d1, s1, s2, s3, s4, μ1, M1, ρ, A.go x1 m1, (Ok.bind.mp q).mono (fun w M2 q W H2 μ2 x2 m2 r2 => ?_) fun _ _ _ q => q.step x1⟩
  obtain ⟨u, eu, q⟩ := opt_ok q
  obtain ⟨he, q9⟩ := yes_ok q
  have := eqT_eq he
  subst this
  obtain ⟨d2, z1, z2, z3, z4⟩ := snapT_ok m2 r2 eu
  refine ⟨W, sd deep t, rfl, hK ▸ d2, z1, z2, z3, z4, hr _ _ _ ?_⟩
  rw [← no?_eq]
  exact q9 _ H2 μ2 (x1.trans x2) m2 (.bl _)
theorem e_cmpR {e1 e2 : Expr} {x y : Se} {ne : Bool} {op : CmpOp} {p1 p2 p3 p4 : Pos} (hK : F.K = X.K) (hgd : X.A.guards = some []) (hu : X.A.units + 65 < cLine) (hop : (op = .Eq ∧ ne = false) ∨ (op = .NotEq ∧ ne = true)) (hg : Gl X "repr") (hm : X.mg "repr" = none)
    (h1 : PE X e1 (tE F x)) (h2 : PE X e2 (tE F y)) (hs1 : starEach [e1] X.env = (false, eval e1 X.env) :: starEach [] X.env) (hs2 : starEach [e2] X.env = (false, eval e2 X.env) :: starEach [] X.env)
    (hb : behindInMarks op (.Call (.Name "repr" p3) [e2] [] p4) = false) : PE X (.Compare (.Call (.Name "repr" p1) [e1] [] p2) [op] [.Call (.Name "repr" p3) [e2] [] p4] pos) (tE F (sCmpR ne x y)) ∧ PT X (.Compare (.Call (.Name "repr" p1) [e1] [] p2) [op] [.Call (.Name "repr" p3) [e2] [] p4] pos) (tX F (sCmpR ne x y)) := by
  obtain ⟨t1, t2, q1, q2, im⟩ := cmpR_parts (ne := ne) (p1 := p1) (p2 := p2) (p3 := p3) (p4 := p4) hK hgd hu hg hm h1 h2 hs1 hs2
  rcases hop with ⟨rfl, rfl⟩ | ⟨rfl, rfl⟩
  · have i2 := im rEq (fun z H Q q => ⟨rfl, by rw [decide_eq_true rfl]; exact q⟩)
    exact ⟨(pe_cmpR op_eq q1 q2 hb).imp i2, (pt_cmpR op_eq q1 q2 hb).imp fun σ H Q q => i2 _ _ _ (tX_tE bl_cmpR q)⟩
  · have i2 := im rNe (fun z H Q q => ⟨rfl, by rw [decide_eq_true rfl]; exact q⟩)
    exact ⟨(pe_cmpR op_ne q1 q2 hb).imp i2, (pt_cmpR op_ne q1 q2 hb).imp fun σ H Q q => i2 _ _ _ (tX_tE bl_cmpR q)⟩
end
end Ev

set_option Elab.async false
set_option linter.all false
set_option maxRecDepth 100000
set_option maxHeartbeats 1000000
/-! Sk2: update, get. -/
namespace Ev
open PySem PySem.Spec PyProof.Rows L2
section
variable {X : Cx} {F : Fr} {pos : Pos}
theorem mt_upd : MtR X "dict.update" (fun x xs H Q => ∃ (a d : Addr) (ks ls : List (Key × V)), x = .ref a ∧ xs = [.ref d] ∧ a ≠ d ∧ H a = some (.dK ks) ∧ H d = some (.dK ls) ∧ ks.length + ls.length ≤ sizeLine ∧ Q .non (upd H a (.dK (mergeK ks ls)))) := by
  intro pins s σ H x xs v us Q I rx rs h
  obtain ⟨a, d, ks, ls, rfl, rfl, hne, ha, hd, hz, q⟩ := h
  cases rx
  obtain ⟨u, rfl, ru⟩ := rs.one
  cases ru
  obtain ⟨z1, s1, vs, r1, d1⟩ := dk_of I.hok ha
  obtain ⟨z2, s2, ws, r2, d2⟩ := dk_of I.hok hd
  refine call_meetsIn PySem.F.slot_dict_update d1.typeIs PySem.F.entry_dict_update (PySem.F.args_dict_update_2 _ _) (meets_dict_update (mixKind X.prog X.w) a d hne s2) ⟨vs, ws, d1, d2, by rw [← r1.length, ← r2.length]; exact hz, fun h' d1' d2' hs => ?_⟩
  have hl : (mergeK ks ls).length ≤ sizeLine := Nat.le_trans (length_mergeK ls ks) hz
  obtain ⟨o', e'⟩ : ∃ q, h'.get? a = some q := let ⟨q, _, _, hq, _⟩ := d1'; ⟨q, hq⟩
  exact ⟨.non, _, d_write I (by rw [ha]; exact True.intro) hs ⟨o', e'⟩ (dk_new hl s1 (r2.merge r1) d1'), rfl, q⟩
theorem nx_update {b : Nat} {M : Mem} {v : PV} {vs : List PV} : NX (m1 meUpdate b M v vs) := nx_lc trivial fun x r => nx_lc (nx_onR trivial fun i => nx_onR trivial fun j => nx_yes trivial (nx_opt trivial fun d => nx_opt trivial fun e => nx_yes trivial (nx_yes trivial (nx_yes (nx_yes trivial trivial) trivial)))) fun _ _ => trivial
theorem dctAt_ok {α : Type} {K : PySem.W.Frag} {b : Nat} {H : Hp} {μ : List Addr} {M : Mem} {i : Nat} {a : Addr} {f : Bool × List (PV × PV) → Res α} {G : α → Mem → Prop} {E : Nat → List PV → Mem → Prop} (m : RM K b H μ M) (e : μ[i]? = some a) (h : Ok (opt (dctAt M i) .no f) G E) :
    (∃ kvs mm, M[i]? = some (.dk kvs) ∧ H a = some (.dK mm) ∧ RD K H μ kvs mm ∧ Ok (f (false, kvs)) G E) ∨ (∃ kvs mm, M[i]? = some (.dt kvs) ∧ H a = some (.dT mm) ∧ RT K H μ kvs mm ∧ Ok (f (true, kvs)) G E) := by
  obtain ⟨d, e1, h⟩ := opt_ok h
  have e1 : opt (nth M i) none Obj.dict = some d := e1
  obtain ⟨o, ho, ro⟩ := m.at e
  rw [nth_eq, ho] at e1
  cases ro with
  | box _ _ => first | (cases e; done) | (cases e1; done) | (cases h; done) | (cases hk; done) | (cases q; done) | (exact False.elim q) | (exact False.elim h)
  | lst h1 h2 => cases e1
  | ro h1 h2 => cases e1
  | dk h1 h2 => cases e1; exact .inl ⟨_, _, ho, h1, h2, h⟩
  | dt h1 h2 => cases e1; exact .inr ⟨_, _, ho, h1, h2, h⟩
theorem low_putAll {c : Nat} : ∀ {more kvs : List (PV × PV)}, (∀ p ∈ more, Low c p.2) → (∀ p ∈ kvs, Low c p.2) → ∀ p ∈ putAll more kvs, Low c p.2
  | [], _, _, h => h
  | q :: more, kvs, h1, h2 => low_putAll (more := more) (fun p hp => h1 p (List.mem_cons_of_mem _ hp)) (low_put (k := q.1) h2 (h1 q List.mem_cons_self))
/-- a dict of one's own, as the receiver -/
theorem own_dict {H : Hp} {μ : List Addr} {M : Mem} {v : PV} {x : V} (m : F.RM H μ M) (r : RV F.K H μ v x) (h : (v.onR false fun i => some? (dctAt M i)) = true) : ∃ i a, v = .ref i ∧ x = .ref a ∧ μ[i]? = some a ∧ ((∃ kvs, H a = some (.dK kvs)) ∨ ∃ kvs, H a = some (.dT kvs)) := by
  cases r with
  | @ref i a e =>
    have h : some? (dctAt M i) = true := h
    obtain ⟨o, ho, ro⟩ := m.at e
    have e1 : dctAt M i = o.dict := by show opt (nth M i) none Obj.dict = _; rw [nth_eq, ho]; rfl
    rw [e1] at h
    cases ro with
    | dk h1 h2 => exact ⟨i, a, rfl, rfl, e, .inl ⟨_, h1⟩⟩
    | dt h1 h2 => exact ⟨i, a, rfl, rfl, e, .inr ⟨_, h1⟩⟩
    | _ => cases h
  | _ => cases h
theorem e_update {o e : Expr} {x : Se} {l : Sl} {es : List Expr} {apos cpos : Pos} (h : PE X (.Call (.Attribute o "update" apos) es [] cpos) (tMe X "update" (tE F x) (tL F l))) : PE X (.Call (.Attribute o "update" apos) es [] cpos) (tE F (sMe (meKd .update) (evMe .update) x l)) := by
  refine h.imp fun σ H Q q => toMe (fun b M v vs => show NX (m1 meUpdate b M v vs) from nx_update) (fun H μ M v V m r hk => ?_) q
  obtain ⟨i, a, rfl, rfl, ei, ha⟩ := own_dict m r hk
  refine ⟨"dict", "dict.update", _, PySem.F.plainAttrs_dict, PySem.F.slot_dict_update, PySem.F.type_dict_update, mt_upd, .inl (.inr (.inr (.inl ⟨rfl, ha⟩))), fun H2 μ2 M2 xs ws Q x2 m2 r2 q => ?_⟩
  cases r2 with
  | nil => exact q.elim
  | @cons w W _ _ rw rr => cases rr with
    | cons _ _ => exact q.elim
    | nil =>
      have e2 : μ2[i]? = some a := by cases (RV.ref (K := F.K) (H := H) ei).ext x2 with | ref e => exact e
      cases rw with
      | @ref j d ej =>
        have q : Ok (yes (Nat.beq i j) .no (opt (dctAt M2 i) .no fun d => opt (dctAt M2 j) .no fun e => yes d.1 .no (yes e.1 .no (yes (lenOk (Nat.add (len d.2) (len e.2))) (yes (allL (fun p => mayIn F.c.b i p.2) e.2) (Res.ok PV.non (put1 M2 i (.dk (putAll e.2 d.2)))) .no) .no)))) (F.Gd H2 μ2 M2 Q) (fun _ _ _ => False) := q
        cases hij : Nat.beq i j with
        | true => rw [hij] at q; exact q.elim
        | false =>
          rw [hij] at q
          have nij : i ≠ j := fun e => by rw [← Nat.beq_eq, hij] at e; cases e
          rcases dctAt_ok m2 e2 (show Ok (opt (dctAt M2 i) .no _) _ _ from q) with ⟨kvs, mm, h1, h2, h3, q⟩ | ⟨kvs, mm, h1, h2, h3, q⟩
          · rcases dctAt_ok m2 ej q with ⟨kvs', mm', h1', h2', h3', q⟩ | ⟨kvs', mm', h1', h2', h3', q⟩
            · obtain ⟨hl, q⟩ := yes_ok (show Ok (yes (lenOk (Nat.add (len kvs) (len kvs'))) (yes (allL (fun p => mayIn F.c.b i p.2) kvs') (Res.ok PV.non (put1 M2 i (.dk (putAll kvs' kvs)))) .no) .no) _ _ from q)
              obtain ⟨hm, q⟩ := yes_ok q
              rw [len_eq, len_eq] at hl
              have hl := lenOk_le (show lenOk (kvs.length + kvs'.length) = true from hl)
              rw [h3.length, h3'.length] at hl
              rw [allL_eq, List.all_eq_true] at hm
              unfold put1 at q
              rw [setL_eq] at q
              have st := wr_step (o' := .dK (mergeK mm mm')) (ob' := .dk (putAll kvs' kvs)) m2 e2 h1 trivial h2 wr_dK (fun c hc hi hq => low_putAll (fun p hp => mayIn_low (hm p hp) hc hi) (low_at (o := .dk kvs) hq hi h1)) fun H' M' x e => .dk e (RD.merge (h3'.ext x) (h3.ext x))
              have nad : a ≠ d := fun e => by subst e; exact nij (m2.nd i j a _ _ e2 ej h1 h1' trivial trivial)
              exact ⟨a, d, mm, mm', rfl, rfl, nad, h2, h2', hl, q _ _ μ2 st.1 st.2 .non⟩
            · exact q.elim
          · rcases dctAt_ok m2 ej q with ⟨kvs', mm', h1', h2', h3', q⟩ | ⟨kvs', mm', h1', h2', h3', q⟩ <;> exact q.elim
      | _ => exact q.elim
theorem mt_get2 (hu : X.A.units + 1 < cLine) : MtR X "dict.get" (fun x xs H Q => ∃ (a : Addr) (y d : V) (o : Option V), x = .ref a ∧ xs = [y, d] ∧ DGet H a y o ∧ Q (o.getD d) H) := by
  intro pins s σ H x xs v us Q I rx rs h
  obtain ⟨a, y, d, o, rfl, rfl, g, q⟩ := h
  cases rx
  obtain ⟨u, w, rfl, ru, rw'⟩ := rs.two
  exact d_get2 hu I g ru rw' fun w' s' I' r' => ⟨_, H, I', r', q⟩
theorem nx_get2 {b : Nat} {M : Mem} {v : PV} {vs : List PV} : NX (m2 (fun _ => meGet) b M v vs) := nx_lc trivial fun x r => nx_lc trivial fun y s => nx_lc (nx_onR trivial fun i => nx_opt trivial fun e => nx_yes trivial trivial) fun _ _ => trivial
theorem e_get2 {o e : Expr} {x : Se} {l : Sl} {es : List Expr} {apos cpos : Pos} (hu : X.A.units + 1 < cLine) (h : PE X (.Call (.Attribute o "get" apos) es [] cpos) (tMe X "get" (tE F x) (tL F l))) : PE X (.Call (.Attribute o "get" apos) es [] cpos) (tE F (sMe (meKd .get2) (evMe .get2) x l)) := by
  refine h.imp fun σ H Q q => toMe (fun b M v vs => show NX (m2 (fun _ => meGet) b M v vs) from nx_get2) (fun H μ M v V m r hk => ?_) q
  obtain ⟨i, a, rfl, rfl, ei, ha⟩ := own_dict m r hk
  refine ⟨"dict", "dict.get", _, PySem.F.plainAttrs_dict, PySem.F.slot_dict_get, PySem.F.type_dict_get, mt_get2 hu, .inl (.inr (.inr (.inl ⟨rfl, ha⟩))), fun H2 μ2 M2 xs ws Q x2 m2 r2 q => ?_⟩
  have e2 : μ2[i]? = some a := by cases (RV.ref (K := F.K) (H := H) ei).ext x2 with | ref e => exact e
  match ws, xs, r2, q with
  | [k, d], [K1, D1], .cons rk (.cons rd .nil), q =>
    rcases dctAt_ok m2 e2 (show Ok (opt (dctAt M2 i) .no fun e => yes (keyOk e.1 k) (Res.ok (opt (find k e.2) d fun v => v) M2) .no) _ _ from q) with ⟨kvs, mm, h1, h2, h3, q⟩ | ⟨kvs, mm, h1, h2, h3, q⟩
    · obtain ⟨kk, q⟩ := yes_ok q
      obtain ⟨qk, hq⟩ := keyOk_leaf kk
      obtain ⟨rfl, _⟩ := rk.key hq
      refine ⟨a, _, D1, valV mm qk, rfl, rfl, .k h2, ?_⟩
      have := h3.find hq
      cases hf : find k kvs with
      | none => rw [hf] at this q; rw [this]; exact q _ H2 μ2 .refl m2 rd
      | some w => rw [hf] at this q; obtain ⟨w', e', r'⟩ := this; rw [e']; exact q _ H2 μ2 .refl m2 r'
    · obtain ⟨kk, q9⟩ := yes_ok q
      obtain ⟨ks, qk, rfl, hq⟩ := keyOk_tup kk
      cases rk with
      | @tup _ bk _ vs t1 t2 =>
      obtain ⟨rfl, _⟩ := t2.keys hq
      refine ⟨a, _, D1, valV mm qk, rfl, rfl, .t h2 t1, ?_⟩
      have := h3.find hq
      cases hf : find (.tup false ks) kvs with
      | none => rw [hf] at this q9; rw [this]; exact q9 _ H2 μ2 .refl m2 rd
      | some w => rw [hf] at this q9; obtain ⟨w', e', r'⟩ := this; rw [e']; exact q9 _ H2 μ2 .refl m2 r'
  | [], _, _, q => exact q.elim
  | [_], _, _, q => exact q.elim
  | _ :: _ :: _ :: _, _, _, q => exact q.elim
end
end Ev

set_option Elab.async false
set_option linter.all false
set_option maxRecDepth 100000
set_option maxHeartbeats 1000000
/-! Sk3: calls of the program's own functions. -/
namespace Ev
open PySem PySem.Spec PyProof.Rows L2
section
variable {K : PySem.W.Frag} {H H' : Hp} {μ μ' : List Addr} {M M1 : Mem} {b : Nat}
theorem RM.down {c : Nat} (m : RM K c H μ M) (h : b ≤ M.length) : RM K b H μ M := ⟨m.len, m.nd, m.obj, h⟩
/-- what a result of a call is good for -/
def GdC (K : PySem.W.Frag) (b : Nat) (H : Hp) (μ : List Addr) (M : Mem) (Q : VK) (v : PV) (M' : Mem) : Prop := ∀ V H' μ', Ext b H μ M H' μ' M' → RM K b H' μ' M' → RV K H' μ' v V → Q V H'
theorem drop_ok {v : PV} {V : V} {Q : VK} {E : Nat → List PV → Mem → Prop} (h : Ok (drop M.length M1 v) (GdC K b H μ M Q) E) (m0 : RM K b H μ M) (x : Ext M.length H μ M H' μ' M1) (m : RM K M.length H' μ' M1) (r : RV K H' μ' v V) : Q V H' := by
  have hb : b ≤ M.length := m0.base
  have full : Ok (Res.ok v M1) (GdC K b H μ M Q) E → Q V H' := fun q => q V H' μ' (x.weak hb) (m.down (Nat.le_trans hb m.base)) r
  have cl : Closed M.length M1 := x.clo _ (Nat.le_refl _) m0.closed
  have x2 := x.ret m0 m hb
  have m2 : RM K b H' (μ'.take M.length) (M1.take M.length) := (m.cut cl (Nat.le_refl _) m.base).down (by rw [List.length_take]; have := m.base; omega)
  unfold drop at h
  rw [len_eq] at h
  cases e1 : Nat.ble M1.length M.length with
  | true => rw [e1] at h; exact full h
  | false =>
    rw [e1] at h
    cases e2 : below M.length deep v with
    | true =>
      rw [e2] at h
      have q : GdC K b H μ M Q v (takeL M1 M.length) := h
      rw [takeL_eq] at q
      exact q V H' _ x2 m2 (r.cut (below_low e2))
    | false =>
      rw [e2] at h
      cases v with
      | ref i =>
        have h : Ok (opt (nth M1 i) (.ok (.ref i) M1) fun o => opt o.mine (.ok (.ref i) M1) fun xs => yes (allL (below M.length deep) xs) (.ok (.ref M.length) (app (takeL M1 M.length) [.lst xs])) (.ok (.ref i) M1)) (GdC K b H μ M Q) E := h
        rw [nth_eq] at h
        cases e3 : M1[i]? with
        | none => rw [e3] at h; exact full h
        | some o =>
          rw [e3] at h
          cases o with
          | ro xs => exact full h
          | dk xs => exact full h
          | dt xs => exact full h
          | box _ => exact full h
          | lst xs =>
            have h : Ok (yes (allL (below M.length deep) xs) (.ok (.ref M.length) (app (takeL M1 M.length) [.lst xs])) (.ok (.ref i) M1)) (GdC K b H μ M Q) E := h
            cases e4 : allL (below M.length deep) xs with
            | false => rw [e4] at h; exact full h
            | true =>
              rw [e4] at h
              have q : GdC K b H μ M Q (.ref M.length) (app (takeL M1 M.length) [.lst xs]) := h
              rw [takeL_eq, app_eq] at q
              have hi : M.length ≤ i := by
                have e2 : Nat.ble (Nat.succ i) M.length = false := e2
                rcases Nat.lt_or_ge i M.length with z | z
                · rw [natBle.mpr z] at e2; cases e2
                · exact z
              cases r with
              | ref e =>
                rename_i a
                have ro := m.obj i a _ e e3
                have hn : H a = none := by
                  obtain ⟨ν, q1, hn⟩ := x.pre
                  rw [q1, List.getElem?_append_right (by rw [m0.len]; exact hi)] at e
                  exact hn a (List.mem_of_getElem? e)
                have lt : ∀ {j : Nat} {o : Obj}, (M1.take M.length)[j]? = some o → j < M.length ∧ M1[j]? = some o := fun {j o} h => by
                  rw [List.getElem?_take] at h
                  by_cases hj : j < M.length
                  · rw [if_pos hj] at h; exact ⟨hj, h⟩
                  · rw [if_neg hj] at h; cases h
                have fr : Free (μ'.take M.length) (M1.take M.length) a := fun j o h1 h2 w => by
                  obtain ⟨hj, h2⟩ := lt h2
                  rw [List.getElem?_take_of_lt hj] at h1
                  have := m.nd j i a o _ h1 e h2 e3 w trivial
                  omega
                have al : ∀ x ∈ xs, below M.length deep x = true := by rw [allL_eq] at e4; exact List.all_eq_true.mp e4
                have lo : LowO M.length (.lst xs) := Lows.mem.mpr fun x hx => below_low (al x hx)
                have lm : (μ'.take M.length).length = M.length := by
                  rw [List.length_take, m.len]
                  have := m.base
                  omega
                refine q _ H' _ (x2.adopt m2 m0 hn) (m2.adopt fr (ro.cut lo)) (.ref ?_)
                rw [List.getElem?_append_right (by omega), lm, Nat.sub_self]
                rfl
      | _ => exact full h
end
/-! ### a def's promise, where no guard is about -/
structure FnG (P : Program) (w : World) (K : PySem.W.Frag) (mg : Str → Option Value) (base : Heap) (CX : CXT) (k : Nat) (f : Addr) (fd : FuncData) (ps : List Str) (sp : L2.Sp) : Prop where
  ln : ∀ ws H Q E, sp ws H Q E → ws.length = ps.length
  go : ∀ (A : Around) (out : List Env) (s : Shared) (H : Hp) (as : Args) (us : List Value) (ws : List V) (Q : VK) (E : XK), Room k A → A.guards = some [] → Env0 P w K mg base A out s H → BindsTo s fd as (ps.zip us) → Vals ws us →
    sp ws H Q E → codeAny (model P w) A (.call (.ref f) as) (CR CX out P w H s Q E) s
section
variable {X : Cx} {CX : CXT} {k : Nat} {f : Addr} {fd : FuncData} {ps : List Str} {sp : L2.Sp} {E : XK} {x : Str} {p pos : Pos} {es : List Expr} {t : TA}
theorem run_fnG {pins : List (Addr × PySem.Obj)} {σ : L2.St} {H : Hp} {s : Shared} {Q : VK} {us : List Value} {ws : List V} (G : FnG X.prog X.w X.K X.mg X.base CX k f fd ps sp) (hr : Room k X.A) (hg : X.A.guards = some []) (hb : Binds X.K fd ps [])
    (hx : Passes CX X E) (I : Inv X pins σ H s) (r : Vals ws us) (h : sp ws H Q E) : wpAny (model X.prog X.w) X.A (call (.ref f) us) (EP X pins σ Q) X.xe s := by
  have hl : (us ++ []).length = ps.length := by rw [List.append_nil, ← r.length]; exact G.ln _ _ _ _ h
  have b0 := hb s us I.kIn hl
  rw [List.append_nil] at b0
  have z := G.go X.A X.stack s H ⟨us, []⟩ us ws Q E hr hg I.env0 b0 r h
  refine wpAny_call (codeAny_mono z fun o s' hq => ?_)
  rcases o with e | fl
  · exact hx pins σ H s e s' I hq
  · cases fl with
    | ret u => exact I.after hq
    | next => exact hq.elim
    | brk => exact hq.elim
    | cont => exact hq.elim
theorem pe_callG (G : FnG X.prog X.w X.K X.mg X.base CX k f fd ps sp) (hr : Room k X.A) (hgd : X.A.guards = some []) (hg : L2.Gl X x) (hm : X.mg x = some (.ref f)) (hk : PySem.W.keepIn X.K (.ref f) = true) (hb : Binds X.K fd ps []) (hx : Passes CX X E)
    (ha : PA X es t) (hdb : (x == ("__debug__" : Str)) = false) (he : ∀ e r, es = e :: r → starEach (e :: r) X.env = (false, eval e X.env) :: starEach r X.env) (hpl : ∀ e r, es = e :: r → (backTo pos (starEach r X.env)).any (·.1) = false) {t' : TE}
    (h0 : es = [] → ∀ σ H Q, t' σ H Q → sp [] H Q E) (h1 : ∀ σ H Q, t' σ H Q → t σ H fun ws H1 => sp ws H1 Q E) : PE X (.Call (.Name x p) es [] pos) t' := by
  refine ⟨fun pins s σ H Q I h => wpAny_Call_Name_kw (ld_glob I hg hm ?_ hdb)⟩
  cases es with
  | nil => exact PySem.W.callWith_K0 I.kIn hk (run_fnG G hr hgd hb hx I .nil (h0 rfl σ H Q h))
  | cons e r =>
    refine PySem.W.callWith_K (h₀ := X.base) I.ok.mod.kin hk (thn (ha.run pos pins s σ H _ I (h1 σ H Q h)) fun us s1 ⟨ws, H1, I1, r1, q⟩ => ⟨I1.kIn, ?_⟩) (he e r rfl) (hpl e r rfl)
    exact run_fnG G hr hgd hb hx I1 r1 q
end
/-- the promise of a function that cf computes -/
def spF (K : PySem.W.Frag) (RX : Hp → List Addr → Nat → List PV → Value → Option Addr → Prop) (cf : List PV → Mem → Res PV) : L2.Sp := fun ws H Q E => ∃ b μ M as, RM K b H μ M ∧ RVs K H μ as ws ∧
  Ok (cf as M) (GdC K b H μ M Q) fun j zs M' => ∀ cls d H' μ', Ext b H μ M H' μ' M' → RM K b H' μ' M' → RX H' μ' j zs cls d → E cls d H'
section
variable {X : Cx} {F : Fr} {CX : CXT} {k g : Nat} {f : Addr} {fd : FuncData} {ps : List Str} {E : XK} {x : Str} {p pos : Pos} {es : List Expr} {l : Sl}
theorem e_call (hK : F.K = X.K) (G : FnG X.prog X.w X.K X.mg X.base CX k f fd ps (spF X.K F.RX (F.c.cf g))) (hr : Room k X.A) (hgd : X.A.guards = some []) (hg : L2.Gl X x) (hm : X.mg x = some (.ref f)) (hk : PySem.W.keepIn X.K (.ref f) = true) (hb : Binds X.K fd ps [])
    (hx : Passes CX X E) (hE : ∀ cls d σ H, F.W cls d σ H → E cls d H) (ha : PA X es (tL F l)) (hdb : (x == ("__debug__" : Str)) = false) (he : ∀ e r, es = e :: r → starEach (e :: r) X.env = (false, eval e X.env) :: starEach r X.env)
    (hpl : ∀ e r, es = e :: r → (backTo pos (starEach r X.env)).any (·.1) = false) (hl : es = [] → l = lNil) : PE X (.Call (.Name x p) es [] pos) (tE F (sCall g l)) := by
  have main : ∀ σ H Q, tE F (sCall g l) σ H Q → tL F l σ H fun ws H1 => spF X.K F.RX (F.c.cf g) ws H1 Q E := by
    have toM : ∀ {H2 : Hp} {μ2 : List Addr} {M2 : Mem}, RM X.K F.c.b H2 μ2 M2 → F.RM H2 μ2 M2 := fun m => by
      rw [← hK] at m
      exact m
    rintro σ H Q ⟨μ, M, ρ, A, q⟩
    refine ⟨μ, M, ρ, A, (Ok.bind.mp q).mono (fun vs M1 q V H1 μ1 x1 m1 r1 => ?_) fun _ _ _ q => q⟩
    refine ⟨F.c.b, μ1, M1, vs, hK ▸ m1, hK ▸ r1, q.mono (fun v M2 q => ?_) fun j zs M2 q cls d H2 μ2 x2 m2 r2 => hE _ _ σ _ (q cls d H2 μ2 (x1.trans x2) (toM m2) r2)⟩
    exact fun V2 H2 μ2 x2 m2 r2 => q V2 H2 μ2 (x1.trans x2) (toM m2) (hK ▸ r2)
  refine pe_callG G hr hgd hg hm hk hb hx ha hdb he hpl (fun z σ H Q q => ?_) main
  obtain ⟨μ, M, ρ, A, q⟩ := main σ H Q q
  rw [hl z] at q
  have q : F.Gl H μ M (fun ws H1 => spF X.K F.RX (F.c.cf g) ws H1 Q E) [] M := q
  exact q [] H μ .refl A.m .nil
end
/-! ### a body keeps the promise -/
theorem frame_eq (as : List PV) (k : Nat) : frame as k = as.map some ++ List.replicate k none := by
  have h1 : ∀ k : Nat, (nr ([] : Rho) (fun _ r => none :: r) k) = List.replicate k none := by
    intro k
    induction k with
    | zero => rfl
    | succ n ih => exact congrArg (List.cons none) ih
  induction as with
  | nil => exact h1 k
  | cons a r ih => exact congrArg (List.cons (some a)) ih
theorem rs_start {K : PySem.W.Frag} {H : Hp} {μ : List Addr} {as : List PV} {ws : List V} {N : List Str} (r : RVs K H μ as ws) : RS K H μ (frame as (N.length - as.length)) (L2.start N ws) := by
  rw [frame_eq]
  refine ⟨by unfold L2.start; rw [List.length_append, List.length_append, List.length_map, List.length_map, List.length_replicate, List.length_replicate, r.length], fun i v e => ?_⟩
  by_cases hi : i < as.length
  · rw [List.getElem?_append_left (by rw [List.length_map]; exact hi), List.getElem?_map] at e
    cases e1 : as[i]? with
    | none => rw [e1] at e; cases e
    | some a =>
      rw [e1] at e; cases e
      obtain ⟨w, h1, h2⟩ := r.get e1
      refine ⟨w, ?_, h2⟩
      unfold L2.start
      rw [List.getElem?_append_left (by rw [List.length_map, ← r.length]; exact hi), List.getElem?_map, h1]
      rfl
  · rw [List.getElem?_append_right (by rw [List.length_map]; omega), List.getElem?_replicate] at e
    split at e <;> cases e
/-- the frame of a body: where its own objects begin, what is wanted of exceptions -/
def frB (K : PySem.W.Frag) (RX : Hp → List Addr → Nat → List PV → Value → Option Addr → Prop) (cf : Nat → List PV → Mem → Res PV) (b : Nat) (E : XK) : Fr := ⟨K, ⟨cf, b⟩, RX, fun cls d _ H => E cls d H⟩
theorem toBody {K : PySem.W.Frag} {RX : Hp → List Addr → Nat → List PV → Value → Option Addr → Prop} {cf : Nat → List PV → Mem → Res PV} {fn : Fn} {N : List Str} {ws : List V} {H : Hp} {Q : VK} {E : XK}
    (hR : ∀ H μ n j zs cls d, RX H μ j zs cls d → RX H (μ.take n) j zs cls d) (hnl : fn.nl = N.length) (h : spF K RX (run fn cf) ws H Q E) :
    ws.length = fn.np ∧ ∃ b, tS (frB K RX cf b E) fn.body { nx := fun _ H' => Q .non H', rt := Q } (L2.start N ws) H := by
  obtain ⟨b, μ, M, as, m, r, q⟩ := h
  obtain ⟨hl, q⟩ := yes_ok (show Ok (yes (Nat.beq (len as) fn.np) ((fn.body ⟨cf, len M⟩ (frame as (Nat.sub fn.nl fn.np)) M).out (len M)) .no) (GdC K b H μ M Q) _ from q)
  have hl := Nat.eq_of_beq_eq_true hl
  rw [len_eq] at hl
  refine ⟨by rw [← r.length]; exact hl, M.length, μ, M, frame as (Nat.sub fn.nl fn.np), ⟨m.down (Nat.le_refl _), ?_⟩, ?_⟩
  · rw [hnl, ← hl]
    exact rs_start r
  rw [len_eq] at q
  show OkS (fn.body ⟨cf, M.length⟩ (frame as (Nat.sub fn.nl fn.np)) M) _ _ _
  generalize fn.body ⟨cf, M.length⟩ (frame as (Nat.sub fn.nl fn.np)) M = sr at q ⊢
  induction sr with
  | nx ρ M1 => exact fun σ' H' μ' x a => drop_ok (v := .non) q m x a.m .non
  | rt v M1 => exact fun V H' μ' x m1 r1 => drop_ok (v := v) q m x m1 r1
  | exc j zs M1 =>
    intro cls d σ' H' μ' x m1 r1
    have q : ∀ cls d H' μ', Ext b H μ M H' μ' (takeL M1 M.length) → RM K b H' μ' (takeL M1 M.length) → RX H' μ' j zs cls d → E cls d H' := q
    rw [takeL_eq] at q
    have m1 : RM K M.length H' μ' M1 := m1
    have bb : M.length ≤ M1.length := m1.base
    have m2 : RM K b H' (μ'.take M.length) (M1.take M.length) := (m1.cut (x.clo _ (Nat.le_refl _) m.closed) (Nat.le_refl _) bb).down (by rw [List.length_take]; exact Nat.le_min.mpr ⟨m.base, Nat.le_trans m.base bb⟩)
    exact q cls d H' _ (x.ret m m1 m.base) m2 (hR _ _ _ _ _ _ _ r1)
  | no => exact q.elim
  | ch n f ih => exact fun i hi => ih i (q i hi)
theorem fn_ofG {CX : CXT} {P : Program} {w : World} {K : PySem.W.Frag} {mg : Str → Option Value} {base : Heap} {k : Nat} {f : Addr} {name qual : Str} {params : Arguments} {body : List Stmt} {scope : Scope} {dV kV doc pm cdv ct oc : Value} {an od : Option Addr}
    {osl : Array (Option Value)} {N ps : List Str} {sp : L2.Sp} (lk : K.lookup f = some ⟨oc, od, .func (PySem.W.fnOf name qual params body scope dV kV doc pm an cdv ct), osl⟩) (hcd : PySem.W.codeIn K cdv qual = true) (S : FnScope N ps scope)
    (ln : ∀ ws H Q E, sp ws H Q E → ws.length = ps.length)
    (hbody : ∀ (A : Around) (out : List Env) (s : Shared) (H : Hp) (ws : List V) (Q : VK) (E : XK), Room k (A.deeper (envOfC qual scope s.heap.objs.size f cdv)) → A.guards = some [] → sp ws H Q E →
      ∃ t, PSs (cxOf CX P w K mg base N qual scope f cdv A out s H E) body t ∧ t { nx := fun _ H' => Q .non H', rt := Q } (L2.start N ws) H) :
    FnG P w K mg base CX (k + 1) f (PySem.W.fnOf name qual params body scope dV kV doc pm an cdv ct) ps sp := by
  refine ⟨ln, fun A out s H as us ws Q E hr hgd e0 hb r hsp => ?_⟩
  -- the promise of the kit's rule, at this A alone
  have hl := ln _ _ _ _ hsp
  have inK : K.In s.heap := e0.mod.kin.keeps fun c o e => (e0.bs c o e).1
  have small : s.heap.NoLimit := e0.mod.nolimit.keeps fun c o e => (e0.bs c o e).1
  have kinds : ∀ y ∈ ps.zip us, scope.names.lookup y.1 = some .local ∨ (scope.names.lookup y.1 = some .cell ∧ ((cellsFrom (s.heap.objs.size + 1) scope.names []).lookup y.1).isSome = true) := by
    rintro ⟨y, u⟩ hy
    exact (S.par y (List.of_mem_zip hy).1).imp id fun z => ⟨z, PySem.W.cellsFrom_some _ _ _ (.inl z)⟩
  refine codeAny_call_function hr.depth (inK _ _ lk) rfl S.co S.gen rfl (PySem.W.codeRec_of inK hcd) (hb _ _ _ _ (wpAny_newFunctionEnv_cells S.kind kinds fun env he s1 x => ?_))
  subst he
  obtain ⟨t, ht, hq⟩ := hbody A out s H ws Q E (hr.deeper _) hgd hsp
  have I := inv_start (CX := CX) (E := E) S hr.hd e0 hl r x
  refine ⟨small.keeps x.toInCall.keep, codeAny_func (wpAny_mono (ht.run [] s1 (L2.start N ws) H _ I hq) (fun fl s' hs => ?_) fun _ _ hs => hs)⟩
  cases fl with
  | brk => obtain ⟨_, _, _, z⟩ := hs; exact z.elim
  | cont => obtain ⟨_, _, _, z⟩ := hs; exact z.elim
  | next =>
    obtain ⟨σ', H', J, z⟩ := hs
    exact ⟨.non, H', J.os, J.bare, J.base, J.hok, rfl, z⟩
  | ret u =>
    obtain ⟨v, σ', H', J, rv, z⟩ := hs
    exact ⟨v, H', J.os, J.bare, J.base, J.hok, rv, z⟩
end Ev

set_option Elab.async false
set_option linter.all false
set_option maxRecDepth 100000
set_option maxHeartbeats 1000000
/-! Sk4: a law's end, over promises that want no guard about. -/
namespace Ev
open PySem PySem.Spec PyProof.Rows L2
theorem guards_caller : callerA.guards = some [] := rfl
def scObj (vs : List Value) : PySem.Obj := { cls := .type "list", data := .seq vs.toArray }
/-- one tracked list, the script; or none -/
def oneL (t : Bool) (a : Addr) (vs : List Value) (ns : List Int) : Hp := fun c => if t = true ∧ c = a then some (.frz (scObj vs) (.lst (ns.map V.int))) else none
theorem oneL_eq {t : Bool} {a c : Addr} {vs : List Value} {ns : List Int} {u : HO} (h : oneL t a vs ns c = some u) : t = true ∧ c = a ∧ u = .frz (scObj vs) (.lst (ns.map V.int)) := by
  unfold oneL at h
  split at h
  · next e => exact ⟨e.1, e.2, (Option.some.inj h).symm⟩
  · cases h
theorem law_callG {P : Program} {w : World} {K : PySem.W.Frag} {mg mb : Str → Option Value} {CX : CXT} {k : Nat} {fa a : Addr} {fd : FuncData} {x : Str} {sp : L2.Sp} {s₁ : Shared} {vs : List Value} {ns : List Int}
    (KX : K.In s₁.heap) (hns : s₁.heap.Ns mainGlobals mg) (hb : s₁.heap.Ns builtinsNs mb) (hbb : ∀ x : Str, x ≠ "__name__" → mb x = bootBuiltins x) (hlim : s₁.heap.NoLimit) (hg : s₁.gens = #[]) (ha : s₁.heap.get? a = some (scObj vs)) (hi : IntsAre vs ns)
    (hl : ns.length ≤ sizeLine) (hr : Room k callerA) (G : ∀ base : Heap, K.In base → base.Ns mainGlobals mg → FnG P w K mg base CX k fa fd [x] sp) (hbind : ∀ (s : Shared) (u : Value), BindsTo s fd ⟨[u], []⟩ [(x, u)])
    (hsp : ∀ H : Hp, SqF K H a (ns.map V.int) → sp [.ref a] H (fun v _ => v = .bl true) fun _ _ _ => False) (hCX : ∀ H e s', CX [] H s₁ (fun _ _ _ => False) e s' → False) :
    codeAny (model P w) callerA (.call (.ref fa) ⟨[.ref a], []⟩) (fun r s' => (r = .ok (.ret (.bool true)) ∧ OldK s₁.heap s'.heap) ∧ s'.os = s₁.os ∧ AllBare s'.gens) s₁ := by
  have rv := vals_ints hi
  have ln := hi.length
  have main : ∀ t : Bool, SqF K (oneL t a vs ns) a (ns.map V.int) → (t = true → K.lookup a = none) →
      codeAny (model P w) callerA (.call (.ref fa) ⟨[.ref a], []⟩) (fun r s' => (r = .ok (.ret (.bool true)) ∧ OldK s₁.heap s'.heap) ∧ s'.os = s₁.os ∧ AllBare s'.gens) s₁ := by
    intro t hS hK
    generalize hH : oneL t a vs ns = H at hS
    have hone : ∀ {c : Addr} {u : HO}, H c = some u → t = true ∧ c = a ∧ u = .frz (scObj vs) (.lst (ns.map V.int)) := fun {c u} e => oneL_eq (hH ▸ e)
    have back : ∀ {c : Addr} {o : PySem.Obj}, s₁.heap.get? c = some o → H c = none → (hidT s₁.heap H).get? c = some o := fun e n => hidT_get e n
    have ns1 : ∀ {c : Addr} {m : Str → Option Value}, s₁.heap.Ns c m → (hidT s₁.heap H).Ns c m := by
      rintro c m ⟨o, en, ep, e, d, r⟩
      refine ⟨o, en, ep, back e ?_, d, r⟩
      cases q : H c with
      | none => rfl
      | some u =>
        obtain ⟨_, rfl, _⟩ := hone q
        rw [ha] at e; cases e
        exact nomatch (show Data.seq vs.toArray _ = Data.dict en ep from d)
    have kB : K.In (hidT s₁.heap H) := fun c o e => back (KX c o e) (by
      cases q : H c with
      | none => rfl
      | some u =>
        obtain ⟨z, rfl, _⟩ := hone q
        rw [hK z] at e; cases e)
    have ok : HOk P w H s₁.heap := fun c u e => by
      obtain ⟨_, rfl, rfl⟩ := hone e
      exact ⟨ha, by rw [List.length_map]; exact hl, vs, _, rv, ha⟩
    obtain ⟨mc, l1, l2⟩ := hlim
    have md : Mod K mg (hidT s₁.heap H) := ⟨kB, ns1 hns, ⟨mb, ns1 hb, hbb⟩, mc, ns1 l1, l2⟩
    have noE : ∀ {α : Type} {P : α → Prop} {b : α}, b ∈ ([] : List α) → P b := fun z => absurd z (by simp)
    have e0 : Env0 P w K mg (hidT s₁.heap H) callerA [] s₁ H := ⟨rfl, md, fun c o e => of_hidT e, Nat.le_of_eq (hidT_size _ _), trivial, fun c z => noE (P := fun c => H c = none) z, ok, .of_eq hg⟩
    refine codeAny_mono ((G _ kB (ns1 hns)).go callerA [] s₁ H ⟨[.ref a], []⟩ [.ref a] [.ref a] _ _ hr guards_caller e0 (hbind s₁ (.ref a)) (.cons rfl .nil) (hsp H hS)) fun r s' h => ?_
    rcases r with e | fl
    · exact (hCX H e s' h).elim
    · cases fl with
      | next => exact h.elim
      | brk => exact h.elim
      | cont => exact h.elim
      | ret u =>
        obtain ⟨v, H', os, bare, un, ok', rv', q⟩ := h
        obtain rfl : v = .bl true := q
        obtain rfl : u = Value.bool true := rv'
        refine ⟨⟨rfl, .of_keep fun c o e => ?_⟩, os, bare⟩
        cases q : H c with
        | none => exact un.keep c o e q (fun z => noE (P := fun _ => False) z) fun z => noE (P := fun _ => False) z
        | some u =>
          obtain ⟨_, rfl, rfl⟩ := hone q
          obtain ⟨e1, _⟩ := ok' _ _ (un.frzs _ _ _ q)
          rw [ha] at e; cases e
          exact e1
  cases hk : K.lookup a with
  | some o =>
    have e := KX a o hk
    rw [ha] at e; cases e
    exact main false (.inr ⟨_, vs.toArray, _, hk, rfl, rfl, rfl, by rw [List.size_toArray, ln]; exact hl, by simpa using rv⟩) fun z => nomatch z
  | none => exact main true (.inl ⟨scObj vs, if_pos ⟨rfl, rfl⟩⟩) fun _ => hk
/-- a law, by its written part K, its function object and the promise over every base -/
theorem walk_G {l : PySem.W.OpenLaw} {n k : Nat} {q : Program} {loose : List Str} {XP : (Str → Option Value) → Heap → Prop} {YP : World → Heap → Prop} {d : DefRec} {CX : CXT} {x : Str} (hn : l.most = some n) (hn2 : n ≤ sizeLine) (hdf : d.params.defaults = []) (hr : Room k callerA)
    (G : ∀ (w : World) (mg : Str → Option Value) (fa : Addr) (h : Heap), YP w h → h.Ns mainGlobals mg → mg d.name = some (.ref fa) → ∃ (K : PySem.W.Frag) (fd : FuncData) (sp : L2.Sp), K.In h ∧ (∀ (s : Shared) (u : Value), BindsTo s fd ⟨[u], []⟩ [(x, u)]) ∧
        (∀ (H : Hp) (a : Addr) (ns : List Int), ns.length ≤ n → SqF K H a (ns.map V.int) → sp [.ref a] H (fun v _ => v = .bl true) fun _ _ _ => False) ∧ ∀ base : Heap, K.In base → base.Ns mainGlobals mg → FnG l.prog w K mg base CX k fa fd [x] sp)
    (hCX : ∀ (H : Hp) (s : Shared) (e : Value) (s' : Shared), CX [] H s (fun _ _ _ => False) e s' → False) : PySem.W.WalkO q loose XP YP l.row.toRowW d [] (fun f vs => PySem.call f vs) := by
  refine Att.attach_call hn hdf fun w s₀ s₁ mg mb fa o pm cd doc a vs ns R Y ho hd hcd hmg hobj hints hlen hg => ?_
  obtain ⟨K, fd, sp, KX, hb, hsp, hF⟩ := G w mg fa _ Y R.T.g hmg
  refine codeAny_mono (law_callG KX R.T.g R.T.b R.T.builtins R.T.nolimit hg hobj hints (Nat.le_trans hlen hn2) hr hF hb (fun H hO => hsp H a ns hlen hO) fun H e s' => hCX H s₁ e s') fun r s' h => ?_
  exact ⟨h.1.1, h.1.2, h.2⟩
/-- from the evaluator's answer to the promise -/
theorem law_sp {K : PySem.W.Frag} {RX : Hp → List Addr → Nat → List PV → Value → Option Addr → Prop} {cf : List PV → Mem → Res PV} {H : Hp} {a : Addr} {ns : List Int} (h : Ok (cf [.ref 0] [.ro (ns.map PV.int)]) (fun v _ => v = .bl true) fun _ _ _ => False) (hS : SqF K H a (ns.map V.int)) :
    spF K RX cf [.ref a] H (fun v _ => v = .bl true) fun _ _ _ => False := by
  have hv : ∀ l : List Int, RVs K H [a] (l.map PV.int) (l.map V.int) := fun l => by
    induction l with
    | nil => exact .nil
    | cons i r ih => exact .cons (.int i) ih
  refine ⟨0, [a], [.ro (ns.map PV.int)], [.ref 0], ⟨rfl, fun i j b o o' h1 h2 h3 h4 w _ => ?_, fun i b o h1 h2 => ?_, Nat.zero_le _⟩, .cons (.ref rfl) .nil, ?_⟩
  · cases i with
    | zero =>
      have h3 : some (Obj.ro (ns.map PV.int)) = some o := h3
      cases h3
      exact w.elim
    | succ i => simp at h3
  · cases i with
    | zero =>
      have h2 : some (Obj.ro (ns.map PV.int)) = some o := h2
      have h1 : some a = some b := h1
      cases h2; cases h1
      exact .ro hS (hv ns)
    | succ i => simp at h2
  · refine h.mono (fun v M' e V H' μ' x m r => ?_) fun _ _ _ z => z.elim
    subst e
    cases r with
    | bl => rfl
end Ev

set_option Elab.async false
set_option linter.all false
set_option maxRecDepth 100000
set_option maxHeartbeats 1000000
/-! Sk5: the static context; plain facts about the syntax. -/
namespace Ev
open PySem PySem.Spec PyProof.Rows L2
/-- no exception is wanted of anybody -/
def noCX : CXT := fun _ _ _ _ _ _ => False
theorem noCX_passes {X : Cx} {E : XK} : Passes noCX X E := fun _ _ _ _ _ _ _ h => h.elim
/-- names, scope, functions (by index), free builtin names, the module's constants, the names whose cells are the frame's own -/
structure Cc where
  N : List Str
  sc : Scope
  fns : List (Str × Nat)
  fr : List Str
  cons : List (Str × PV)
  fnb : Str → Bool
def Cc.blk (c : Cc) (s : Scope) : Cc := { c with sc := relS s c.sc, fnb := fun x => s.names.lookup x == some .cell }
structure Fit (CX : CXT) (c : Cc) (X : Cx) (F : Fr) : Prop where
  N : X.N = c.N
  sc : X.env.scope = c.sc
  nd : X.N.Nodup
  calm : X.calm = true
  K : F.K = X.K
  gd : X.A.guards = some []
  un : X.A.units + 65 < cLine
  fn : ∀ x, c.fnb x = true → X.fn x = true
  free : ∀ x ∈ c.fr, X.mg x = none
  con : ∀ x v, c.cons.lookup x = some v → ∃ u w, X.mg x = some u ∧ RelV w u ∧ ∀ H μ, RV F.K H μ v w
  nil : ∀ Y : Cx, Passes CX Y fun _ _ _ => False
  pass : ∃ E : XK, Passes CX X E ∧ ∀ cls d σ H, F.W cls d σ H → E cls d H
  call : ∀ x g, c.fns.lookup x = some g → ∃ (k : Nat) (f : Addr) (fd : FuncData) (ps : List Str), FnG X.prog X.w X.K X.mg X.base CX k f fd ps (spF X.K F.RX (F.c.cf g)) ∧ Room k X.A ∧ X.mg x = some (.ref f) ∧ PySem.W.keepIn X.K (.ref f) = true ∧ Binds X.K fd ps []
theorem Fit.blk {CX : CXT} {c : Cc} {X : Cx} {F : Fr} (T : Fit CX c X F) (s : Shared) (H : Hp) (sc : Scope) (cl : List (Str × Addr)) (C : Addr) (fp : List Addr)  : Fit CX (c.blk sc) (X.blk s H sc (compEnvC sc cl C X.env) fp) F.blk :=
  ⟨T.N, by show relS sc X.env.scope = relS sc c.sc; rw [T.sc], T.nd, T.calm, T.K, T.gd, T.un, fun x h => h, T.free, T.con, T.nil, ⟨_, T.nil _, fun _ _ _ _ h => h⟩, T.call⟩
/-! ### plain facts -/
def plain : Expr → Bool | .Starred _ _ => false | _ => true
def noCut : Expr → Bool | .Slice _ _ _ _ => false | _ => true
def noSet : Expr → Bool | .Set _ _ _ => false | _ => true
theorem star_plain {e : Expr} {r : List Expr} {env : Env} (h : plain e = true) : starEach (e :: r) env = (false, eval e env) :: starEach r env := by
  cases e <;> first | rfl | cases h
theorem asg_plain {e : Expr} {r : List Expr} {env : Env} (h : plain e = true) : assignEach (e :: r) env = (false, assign e env) :: assignEach r env := by
  cases e <;> first | rfl | cases h
theorem ix_plain {e : Expr} (h : noCut e = true) : PlainIx e := fun o i => by
  cases e <;> first | rfl | cases h
theorem set_plain {e : Expr} {env : Env} (h : noSet e = true) : ∀ x, foldedSetIterable e env x = pure x := fun x => by
  cases e <;> first | rfl | cases h
theorem stars_any {env : Env} {pos : Pos} : ∀ {es : List Expr}, es.all plain = true → (backTo pos (starEach es env)).any (·.1) = false
  | [], _ => rfl
  | e :: r, h => by
    rw [List.all_cons, Bool.and_eq_true] at h
    rw [star_plain h.1]
    show (false || (backTo pos (starEach r env)).any (·.1)) = false
    rw [Bool.false_or]
    exact stars_any h.2
theorem asg_len {env : Env} : ∀ {es : List Expr}, (assignEach es env).length = es.length
  | [] => rfl
  | e :: r => by
    have ih := asg_len (env := env) (es := r)
    cases e <;> exact congrArg Nat.succ ih
theorem asg_find {env : Env} : ∀ {es : List Expr}, es.all plain = true → (assignEach es env).findIdx? (·.1) = none
  | [], _ => rfl
  | e :: r, h => by
    rw [List.all_cons, Bool.and_eq_true] at h
    rw [asg_plain h.1, List.findIdx?_cons]
    show (Option.map _ ((assignEach r env).findIdx? _)) = none
    rw [asg_find h.2]
    rfl
/-- a global name -/
def Cc.gl (c : Cc) (x : Str) : Bool := c.sc.names.lookup x == some .globalImplicit
def Cc.vis (c : Cc) (x : Str) : Bool := match c.sc.names.lookup x with | some .local => true | some .cell => true | some .free => true | _ => false
def Cc.loc (c : Cc) (x : Str) : Bool := match c.sc.names.lookup x with | some .local => true | some .cell => true | _ => false
section
variable {CX : CXT} {c : Cc} {X : Cx} {F : Fr} {x : Str} {i : Nat}
theorem Fit.gl (T : Fit CX c X F) (h : c.gl x = true) : L2.Gl X x := by
  show X.env.scope.names.lookup x = _
  rw [T.sc]; exact beq_iff_eq.mp h
theorem Fit.vis (T : Fit CX c X F) (h : c.vis x = true) : Vis X.env.scope x := by
  unfold Vis
  rw [T.sc]
  unfold Cc.vis at h
  split at h <;> first | exact .inl (by assumption) | exact .inr (.inl (by assumption)) | exact .inr (.inr (by assumption)) | cases h
theorem Fit.loc (T : Fit CX c X F) (h : c.loc x = true) : L2.Loc X.env.scope x := by
  unfold L2.Loc
  rw [T.sc]
  unfold Cc.loc at h
  split at h <;> first | exact .inl (by assumption) | exact .inr (by assumption) | cases h
theorem Fit.mg (T : Fit CX c X F) (h : c.fr.contains x = true) : X.mg x = none := T.free x (List.contains_iff_mem.mp h)
end
end Ev

set_option Elab.async false
set_option linter.all false
set_option maxRecDepth 100000
set_option maxHeartbeats 1000000
/-! Sk6: the check of a term against the written expression. -/
namespace Ev
open PySem PySem.Spec PyProof.Rows L2
/-- constants of the module -/
def conEq : PV → PV → Bool
  | .int i, .int j => i == j
  | .str s, .str t => decide (s = t)
  | .bl a, .bl b => a == b
  | _, _ => false
def opOk : Ev.Op → Operator → Bool
  | .add, .Add => true | .sub, .Sub => true | .mul, .Mult => true | .fdiv, .FloorDiv => true | .mod, .Mod => true | .pow, .Pow => true | _, _ => false
def cmOk : Cm → CmpOp → Bool
  | .eq, .Eq => true | .ne, .NotEq => true | .lt, .Lt => true | .le, .LtE => true | .gt, .Gt => true | .ge, .GtE => true | .isIn, .In => true | .notIn, .NotIn => true | .is, .Is => true | .isNot, .IsNot => true | _, _ => false
/-- a built-in function's name (with one argument or two) -/
def biNm : Bi → Option (Str × Nat)
  | .len => some ("len", 1) | .abs => some ("abs", 1) | .max2 => some ("max", 2) | .min2 => some ("min", 2) | .int1 => some ("int", 1) | .sorted => some ("sorted", 1) | .tuple _ => some ("tuple", 1) | .list => some ("list", 1)
  | .all => some ("all", 1) | .any => some ("any", 1) | .sum => some ("sum", 1) | .max1 => some ("max", 1) | .min1 => some ("min", 1) | .dict1 => some ("dict", 1) | .repr => none | .isi _ => none | .bool1 => none | .str1 => none
def meNm : Me → Option (Str × Nat)
  | .append => some ("append", 1) | .extend => some ("extend", 1) | .pop => some ("pop", 0) | .popAt => some ("pop", 1) | .index => some ("index", 1) | .count => some ("count", 1) | .update => some ("update", 1) | .get2 => some ("get", 2) | .remove => none
def tyNm : Ty → Str | .tInt => "int" | .tBool => "bool" | .tStr => "str" | .tTup => "tuple" | .tLst => "list" | .tDct => "dict"
def Cc.own (c : Cc) (ns : List Nat) : List (Str × Nat) := ns.map fun i => (c.N.getD i ⟨#[]⟩, i)
/-- not a call without arguments (super) -/
def noCall : Expr → Bool | .Call (.Name _ _) [] [] _ => false | _ => true
def namesOf : List Expr → Option (List Str)
  | [] => some []
  | .Name x _ :: r => (namesOf r).map (x :: ·)
  | _ :: _ => none
mutual
/-- the places that a target sets -/
def gIx : G → List Nat
  | .name i => [i]
  | .tup gs => gIxs gs
  | .sub _ _ => []
def gIxs : List G → List Nat
  | [] => []
  | g :: r => gIx g ++ gIxs r
end
def isiOf : Bi → Option (List Ty) | .isi ts => some ts | _ => none
/-- the types of an isinstance -/
def isiC (c : Cc) (e : Expr) (ts : List Ty) : Bool := match e with
  | .Name z _ => (match ts with | [t] => (z == tyNm t) && c.gl z && c.fr.contains z | _ => false)
  | .Tuple zs _ _ => decide (namesOf zs = some (ts.map tyNm)) && decide (ts.length ≤ 10) && ts.all fun t => c.gl (tyNm t) && c.fr.contains (tyNm t)
  | _ => false
mutual
def chkE (c : Cc) (e : Expr) : E → Bool
  | .var i => match e with | .Name x _ => (c.N[i]? == some x) && c.vis x && !(x == "__debug__") && !(x == "__classdict__") | _ => false
  | .int i => match e with | .Constant (.int j) _ _ => i == j | _ => false
  | .bl k => match e with | .Constant (.bool j) _ _ => k == j | _ => false
  | .non => match e with | .Constant .none _ _ => true | _ => false
  | .str s => match e with | .Constant (.str x) _ _ => decide (x = txt s) && s.all (fun k => decide (k < 1114112)) && decide (s.length ≤ sizeLine) | _ => false
  | .con v => match e with | .Name x _ => c.gl x && !(x == "__debug__") && (match c.cons.lookup x with | some w => conEq v w | none => false) | _ => false
  | .gfn _ => false
  | .tup _ es => match e with | .Tuple l _ _ => chkL c l es && decide (l.length ≤ sizeLine) | _ => false
  | .tupS es => match e with | .Tuple l _ _ => chkAs c l es | _ => false
  | .lst es => match e with | .List l _ => chkL c l es && decide (l.length ≤ sizeLine) | _ => false
  | .dnew _ => match e with | .Dict [] [] _ => true | _ => false
  | .dct _ ps => match e with | .Dict ks vs _ => chkD c ks vs ps && !ks.isEmpty && decide (ks.length ≤ 15) | _ => false
  | .bin op a b => match e with | .BinOp x o y _ => opOk op o && chkE c x a && chkE c y b | _ => false
  | .neg a => match e with | .UnaryOp .USub x _ => chkE c x a | _ => false
  | .not a => match e with | .UnaryOp .Not x _ => chkE c x a | _ => false
  | .and a b => match e with
    | .BoolOp .And [x, y] _ => chkE c x a && chkE c y b
    | .BoolOp .And (x :: y :: z :: r) p => chkE c x a && chkE c (.BoolOp .And (y :: z :: r) p) b
    | _ => false
  | .or a b => match e with
    | .BoolOp .Or [x, y] _ => chkE c x a && chkE c y b
    | .BoolOp .Or (x :: y :: z :: r) p => chkE c x a && chkE c (.BoolOp .Or (y :: z :: r) p) b
    | _ => false
  | .cmp op a b => match e with | .Compare x [o] [y] _ => cmOk op o && chkE c x a && chkE c y b && !(behindInMarks o y) | _ => false
  | .cmpR ne a b => match e with
    | .Compare (.Call (.Name r1 _) [x] [] _) [o] [.Call (.Name r2 _) [y] [] _] _ => (r1 == "repr") && (r2 == "repr") && c.gl "repr" && c.fr.contains "repr" && cmOk (if ne then .ne else .eq) o && plain x && plain y && chkE c x a && chkE c y b
    | _ => false
  | .chain op op' a b d => match e with | .Compare x [o, o'] [y, z] _ => cmOk op o && cmOk op' o' && chkE c x a && chkE c y b && chkE c z d && !(behindInMarks o y) && !(behindInMarks o' z) | _ => false
  | .ite t a b => match e with | .IfExp w x y _ => chkE c w t && chkE c x a && chkE c y b | _ => false
  | .idx a b => match e with | .Subscript x y _ => chkE c x a && chkE c y b && noCut y | _ => false
  | .cut a lo hi => match e with | .Subscript x (.Slice l h none _) _ => chkE c x a && chkO c l lo && chkO c h hi | _ => false
  | .rev _ => false
  | .comp elt g it ifs own => match e with
    | .ListComp x [⟨tg, iter, fs, 0⟩] sc _ => blkC c.N c.sc sc (c.own own) && (gIx g).all (own.contains ·) && noSet iter && chkI c tg iter it && chkG (c.blk sc) tg g && chkB (c.blk sc) fs ifs && chkE (c.blk sc) x elt
    | _ => false
  | .dcomp t k v g it ifs own => match e with
    | .DictComp x y [⟨tg, iter, fs, 0⟩] sc _ => !t && blkC c.N c.sc sc (c.own own) && (gIx g).all (own.contains ·) && noSet iter && chkI c tg iter it && chkG (c.blk sc) tg g && chkB (c.blk sc) fs ifs && chkE (c.blk sc) x k && chkE (c.blk sc) y v
    | _ => false
  | .rngT t a => match e with
    | .Call (.Name nm _) [y@(.Call (.Name "range" _) _ [] _)] [] _ => (nm == if t then "tuple" else "list") && c.gl nm && c.fr.contains nm && chkI c y y a && (match a with | .rng1 _ => true | .rng2 _ _ => true | _ => false)
    | _ => false
  | .call g es => match e with | .Call (.Name x _) l [] _ => c.gl x && (c.fns.lookup x == some g) && !(x == "__debug__") && l.all plain && chkL c l es | _ => false
  | .bi b es => match e with
    | .Call (.Name x _) l [] _ => c.gl x && c.fr.contains x && (match isiOf b with
      | some ts => (match l with | [y, z] => (x == "isinstance") && isiC c z ts && chkL c [y] es | _ => false)
      | none => decide (biNm b = some (x, l.length)) && l.all plain && chkL c l es)
    | _ => false
  | .me m o es => match e with | .Call (.Attribute x nm ap) l [] cp => decide (meNm m = some (nm, l.length)) && l.all plain && (ap.endLine == cp.line) && noCall x && chkE c x o && chkL c l es | _ => false
  | .never => true
def chkL (c : Cc) (l : List Expr) : List E → Bool
  | [] => match l with | [] => true | _ => false
  | e :: r => match l with | x :: l' => plain x && chkE c x e && chkL c l' r | _ => false
def chkAs (c : Cc) (l : List Expr) : List A → Bool
  | [] => match l with | [] => true | _ => false
  | a :: r => match l with | x :: l' => chkA c x a && chkAs c l' r | _ => false
def chkA (c : Cc) (x : Expr) : A → Bool
  | .one e => plain x && chkE c x e
  | .star i => match x with | .Starred y _ => chkI c y y i && (match i with | .val _ => true | .rng1 _ => true | .rng2 _ _ => true | _ => false) | _ => false
def chkD (c : Cc) (ks : List (Option Expr)) (vs : List Expr) : List D → Bool
  | [] => match ks, vs with | [], [] => true | _, _ => false
  | d :: r => match ks, vs with | some k :: ks', v :: vs' => chkP c k v d && chkD c ks' vs' r | _, _ => false
def chkP (c : Cc) (k v : Expr) : D → Bool
  | .kv x y => chkE c k x && chkE c v y
def chkO (c : Cc) (e : Option Expr) : Option E → Bool
  | none => match e with | none => true | _ => false
  | some x => match e with | some y => chkE c y x | _ => false
def chkB (c : Cc) (l : List Expr) : Option E → Bool
  | none => match l with | [] => true | _ => false
  | some x => match l with | [y] => chkE c y x | _ => false
def chkI (c : Cc) (tg e : Expr) : I → Bool
  | .val x => chkE c e x
  | .rng1 a => match e with | .Call (.Name nm _) [x] [] _ => (nm == "range") && c.gl nm && c.fr.contains nm && plain x && chkE c x a | _ => false
  | .rng2 a b => match e with | .Call (.Name nm _) [x, y] [] _ => (nm == "range") && c.gl nm && c.fr.contains nm && plain x && plain y && chkE c x a && chkE c y b | _ => false
  | .enum a => match tg, e with | .Tuple [.Name _ _, .Name _ _] _ _, .Call (.Name nm _) [x] [] _ => (nm == "enumerate") && c.gl nm && c.fr.contains nm && plain x && chkE c x a | _, _ => false
  | .zip a b => match tg, e with | .Tuple [.Name _ _, .Name _ _] _ _, .Call (.Name nm _) [x, y] [] _ => (nm == "zip") && c.gl nm && c.fr.contains nm && plain x && plain y && chkE c x a && chkE c y b | _, _ => false
def chkG (c : Cc) (e : Expr) : G → Bool
  | .name i => match e with | .Name x _ => (c.N[i]? == some x) && c.loc x && (c.fnb x || c.sc.names.lookup x == some .local) | _ => false
  | .tup gs => match e with | .Tuple l _ _ => chkGl c l gs | _ => false
  | .sub o i => match e with | .Subscript x y _ => chkE c x o && chkE c y i && noCut y | _ => false
def chkGl (c : Cc) (l : List Expr) : List G → Bool
  | [] => match l with | [] => true | _ => false
  | g :: r => match l with | x :: l' => plain x && chkG c x g && chkGl c l' r | _ => false
end
end Ev

set_option Elab.async false
set_option linter.all false
set_option maxRecDepth 100000
set_option maxHeartbeats 1000000
/-! Sk7: the check is sound. -/
namespace Ev
open PySem PySem.Spec PyProof.Rows L2
theorem nx_op (op : Ev.Op) : ∀ M v w, NX (evOp op M v w) := fun M v w => by
  cases op
  all_goals
    repeat' first
      | exact nx_ok
      | exact nx_no
      | exact nx_new
      | intro _
      | apply nx_yes
      | apply nx_opt
      | apply nx_onI
      | apply nx_onB
      | apply nx_onT
      | apply nx_onR
      | apply nx_lc
      | apply nx_ic
      | apply nx_el
theorem nx_cm (op : Cm) : ∀ M v w, NX (evCm op M v w) := fun M v w => by
  cases op
  all_goals
    repeat' first
      | exact nx_ok
      | exact nx_no
      | intro _
      | apply nx_yes
      | apply nx_opt
      | apply nx_onI
      | apply nx_onB
      | apply nx_onT
      | apply nx_onR
      | apply nx_lc
      | apply nx_ic
      | apply nx_el
theorem op_ok {CX : CXT} {X : Cx} {F : Fr} {c : Cc} {op : Ev.Op} {o : Operator} (T : Fit CX c X F) (h : opOk op o = true) : OpR X (binaryOp o) (R2 F (evOp op)) := by
  cases op <;> cases o <;> first | (cases h; done) | exact o_add T.K | exact o_sub | exact o_mul T.K | exact o_fdiv | exact o_mod | exact o_pow
theorem cm_ok {CX : CXT} {X : Cx} {F : Fr} {c : Cc} {op : Cm} {o : CmpOp} (T : Fit CX c X F) (h : cmOk op o = true) : OpR X (compareOp o) (R2 F (evCm op)) := by
  have u := T.un
  cases op <;> cases o <;> first | (cases h; done) | exact o_eq T.K (by omega) | exact o_ne T.K (by omega) | exact o_lt | exact o_le | exact o_gt | exact o_ge | exact o_in T.K u | exact o_notIn T.K u | exact o_is | exact o_isNot
theorem nx_b1 {f : Mem → PV → Res PV} (h : ∀ M v, NX (f M v)) : ∀ M v, NX (b1 f M v) := fun M v => nx_lc nx_no fun x r => by cases r; exact h M x; exact nx_no
theorem nx_b2 {f : Mem → PV → PV → Res PV} (h : ∀ M v w, NX (f M v w)) : ∀ M v, NX (b2 f M v) := fun M v => nx_lc nx_no fun x r => nx_lc nx_no fun y r => by cases r; exact h M x y; exact nx_no
/-- built-in functions by name -/
theorem bi_ok {CX : CXT} {c : Cc} {X : Cx} {F : Fr} {b : Bi} {x : Str} {p pos : Pos} {l : List Expr} {y : Sl} (T : Fit CX c X F) (h : biNm b = some (x, l.length)) (hg : L2.Gl X x) (hm : X.mg x = none) (hp : l.all plain = true) (ha : PA X l (tL F y)) :
    PE X (.Call (.Name x p) l [] pos) (tE F (sBi (evBi b) y)) := by
  have u := T.un
  cases l with
  | nil => cases b <;> first | (cases h; done) | exact absurd (congrArg (fun z => z.map (·.2)) h) (by decide)
  | cons e r =>
    rw [List.all_cons, Bool.and_eq_true] at hp
    have s1 := star_plain (r := r) (env := X.env) hp.1
    have s2 := stars_any (env := X.env) (pos := pos) hp.2
    have hx : ∀ {y : Str} {n : Nat}, biNm b = some (y, n) → x = y := fun e => by rw [e] at h; cases h; rfl
    cases b
    case len => obtain rfl := hx rfl; exact e_biB (nx_b1 (by
      intros
      repeat' first
        | exact nx_ok
        | exact nx_no
        | exact nx_new
        | intro _
        | apply nx_yes
        | apply nx_opt
        | apply nx_onI
        | apply nx_onB
        | apply nx_onT
        | apply nx_onR
        | apply nx_lc
        | apply nx_ic
        | apply nx_el)) (c_len T.K) hg hm (by decide +kernel) ha (by decide) (by decide) s1 s2
    case abs => obtain rfl := hx rfl; exact e_biB (nx_b1 (by
      intros
      repeat' first
        | exact nx_ok
        | exact nx_no
        | exact nx_new
        | intro _
        | apply nx_yes
        | apply nx_opt
        | apply nx_onI
        | apply nx_onB
        | apply nx_onT
        | apply nx_onR
        | apply nx_lc
        | apply nx_ic
        | apply nx_el)) (c_abs) hg hm (by decide +kernel) ha (by decide) (by decide) s1 s2
    case max2 => obtain rfl := hx rfl; exact e_biB (nx_b2 (by
      intros
      repeat' first
        | exact nx_ok
        | exact nx_no
        | exact nx_new
        | intro _
        | apply nx_yes
        | apply nx_opt
        | apply nx_onI
        | apply nx_onB
        | apply nx_onT
        | apply nx_onR
        | apply nx_lc
        | apply nx_ic
        | apply nx_el)) (c_max2 T.calm) hg hm (by decide +kernel) ha (by decide) (by decide) s1 s2
    case min2 => obtain rfl := hx rfl; exact e_biB (nx_b2 (by
      intros
      repeat' first
        | exact nx_ok
        | exact nx_no
        | exact nx_new
        | intro _
        | apply nx_yes
        | apply nx_opt
        | apply nx_onI
        | apply nx_onB
        | apply nx_onT
        | apply nx_onR
        | apply nx_lc
        | apply nx_ic
        | apply nx_el)) (c_min2 T.calm) hg hm (by decide +kernel) ha (by decide) (by decide) s1 s2
    case int1 => obtain rfl := hx rfl; exact e_biT (nx_b1 (by
      intros
      repeat' first
        | exact nx_ok
        | exact nx_no
        | exact nx_new
        | intro _
        | apply nx_yes
        | apply nx_opt
        | apply nx_onI
        | apply nx_onB
        | apply nx_onT
        | apply nx_onR
        | apply nx_lc
        | apply nx_ic
        | apply nx_el)) (c_int1) hg hm (by decide +kernel) ha (by decide) (by decide) s1 s2
    case sorted => obtain rfl := hx rfl; exact e_biB (nx_b1 (by
      intros
      repeat' first
        | exact nx_ok
        | exact nx_no
        | exact nx_new
        | intro _
        | apply nx_yes
        | apply nx_opt
        | apply nx_onI
        | apply nx_onB
        | apply nx_onT
        | apply nx_onR
        | apply nx_lc
        | apply nx_ic
        | apply nx_el)) (c_sorted T.K T.calm (by omega)) hg hm (by decide +kernel) ha (by decide) (by decide) s1 s2
    case tuple f => obtain rfl := hx rfl; exact e_biT (nx_b1 (by
      intros
      repeat' first
        | exact nx_ok
        | exact nx_no
        | exact nx_new
        | intro _
        | apply nx_yes
        | apply nx_opt
        | apply nx_onI
        | apply nx_onB
        | apply nx_onT
        | apply nx_onR
        | apply nx_lc
        | apply nx_ic
        | apply nx_el)) (c_tuple T.K f) hg hm (by decide +kernel) ha (by decide) (by decide) s1 s2
    case list => obtain rfl := hx rfl; exact e_biT (nx_b1 (by
      intros
      repeat' first
        | exact nx_ok
        | exact nx_no
        | exact nx_new
        | intro _
        | apply nx_yes
        | apply nx_opt
        | apply nx_onI
        | apply nx_onB
        | apply nx_onT
        | apply nx_onR
        | apply nx_lc
        | apply nx_ic
        | apply nx_el)) (c_list T.K T.calm) hg hm (by decide +kernel) ha (by decide) (by decide) s1 s2
    case all => obtain rfl := hx rfl; exact e_biB (nx_b1 (by
      intros
      repeat' first
        | exact nx_ok
        | exact nx_no
        | exact nx_new
        | intro _
        | apply nx_yes
        | apply nx_opt
        | apply nx_onI
        | apply nx_onB
        | apply nx_onT
        | apply nx_onR
        | apply nx_lc
        | apply nx_ic
        | apply nx_el)) (c_all T.K T.calm) hg hm (by decide +kernel) ha (by decide) (by decide) s1 s2
    case any => obtain rfl := hx rfl; exact e_biB (nx_b1 (by
      intros
      repeat' first
        | exact nx_ok
        | exact nx_no
        | exact nx_new
        | intro _
        | apply nx_yes
        | apply nx_opt
        | apply nx_onI
        | apply nx_onB
        | apply nx_onT
        | apply nx_onR
        | apply nx_lc
        | apply nx_ic
        | apply nx_el)) (c_any T.K T.calm) hg hm (by decide +kernel) ha (by decide) (by decide) s1 s2
    case sum => obtain rfl := hx rfl; exact e_biB (nx_b1 (by
      intros
      repeat' first
        | exact nx_ok
        | exact nx_no
        | exact nx_new
        | intro _
        | apply nx_yes
        | apply nx_opt
        | apply nx_onI
        | apply nx_onB
        | apply nx_onT
        | apply nx_onR
        | apply nx_lc
        | apply nx_ic
        | apply nx_el)) (c_sum T.K T.calm) hg hm (by decide +kernel) ha (by decide) (by decide) s1 s2
    case max1 => obtain rfl := hx rfl; exact e_biB (nx_b1 (by
      intros
      repeat' first
        | exact nx_ok
        | exact nx_no
        | exact nx_new
        | intro _
        | apply nx_yes
        | apply nx_opt
        | apply nx_onI
        | apply nx_onB
        | apply nx_onT
        | apply nx_onR
        | apply nx_lc
        | apply nx_ic
        | apply nx_el)) (c_max1 T.K T.calm (by omega)) hg hm (by decide +kernel) ha (by decide) (by decide) s1 s2
    case min1 => obtain rfl := hx rfl; exact e_biB (nx_b1 (by
      intros
      repeat' first
        | exact nx_ok
        | exact nx_no
        | exact nx_new
        | intro _
        | apply nx_yes
        | apply nx_opt
        | apply nx_onI
        | apply nx_onB
        | apply nx_onT
        | apply nx_onR
        | apply nx_lc
        | apply nx_ic
        | apply nx_el)) (c_min1 T.K T.calm (by omega)) hg hm (by decide +kernel) ha (by decide) (by decide) s1 s2
    case dict1 => obtain rfl := hx rfl; exact e_biT (nx_b1 (by
      intros
      repeat' first
        | exact nx_ok
        | exact nx_no
        | exact nx_new
        | intro _
        | apply nx_yes
        | apply nx_opt
        | apply nx_onI
        | apply nx_onB
        | apply nx_onT
        | apply nx_onR
        | apply nx_lc
        | apply nx_ic
        | apply nx_el)) (c_dict T.K T.calm) hg hm (by decide +kernel) ha (by decide) (by decide) s1 s2
    all_goals cases h
end Ev

set_option Elab.async false
set_option linter.all false
set_option maxRecDepth 100000
set_option maxHeartbeats 1000000
/-! Sk8: the check of an expression is sound, constructor by constructor. -/
namespace Ev
open PySem PySem.Spec PyProof.Rows L2
/-- what is known of a checked expression -/
structure SE (X : Cx) (F : Fr) (ex : Expr) (x : Se) : Prop where
  e : PE X ex (tE F x)
  t : PT X ex (tX F x)
  w : ∀ op l p, ex = .BoolOp op l p → PW X ex (tX F x)
section
variable {X : Cx} {F : Fr} {e : Expr} {x : Se}
theorem SE.of (hK : F.K = X.K) (h : PE X e (tE F x)) (he : ∀ whole, isTrue e X.env whole = (do let v ← whole; standAt e.pos; holding [v] (truthy v))) (nb : ∀ op l p, e ≠ .BoolOp op l p) : SE X F e x := ⟨h, x_of hK h he, fun op l p z => absurd z (nb op l p)⟩
theorem SE.two (h : PE X e (tE F x)) (t : PT X e (tX F x)) (nb : ∀ op l p, e ≠ .BoolOp op l p) : SE X F e x := ⟨h, t, fun op l p z => absurd z (nb op l p)⟩
theorem SE.bool (h : PE X e (tE F x)) (t : PW X e (tX F x)) : SE X F e x := ⟨h, t.pt, fun _ _ _ _ => t⟩
theorem x_ite {c a b : Expr} {t x y : Se} {pos : Pos} (hc : PT X c (tX F t)) (ha : PT X a (tX F x)) (hb : PT X b (tX F y)) : PT X (.IfExp c a b pos) (tX F (sIte t x y)) := by
  refine ⟨fun pins s σ H Q I q => ?_⟩
  obtain ⟨μ, M, ρ, A, q⟩ := q
  have e1 : isTrue (.IfExp c a b pos) X.env (eval (.IfExp c a b pos) X.env) = (do if ← isTrue c X.env (eval c X.env) then isTrue a X.env (eval a X.env) else isTrue b X.env (eval b X.env)) := by
    rfl
  rw [e1]
  refine wpAny_bind (thn (hc.run pins s σ H (fun k H1 => if k = true then tX F x σ H1 Q else tX F y σ H1 Q) I ⟨μ, M, ρ, A, (Ok.bind.mp q).mono (fun v M1 q H1 μ1 x1 m1 => ?_) fun _ _ _ q => q⟩) fun k s1 ⟨H1, I1, q1⟩ => ?_)
  · obtain ⟨k, e, q⟩ := byT_ok q
    refine ⟨k, e, ?_⟩
    cases k with
    | true => exact ⟨μ1, M1, ρ, A.go x1 m1, Ok.stepT q x1⟩
    | false => exact ⟨μ1, M1, ρ, A.go x1 m1, Ok.stepT q x1⟩
  · cases k with
    | true => exact ha.run pins s1 σ H1 Q I1 q1
    | false => exact hb.run pins s1 σ H1 Q I1 q1
end
/-! ### a comparison gives a bool -/
theorem ob_opt {α : Type} {o : Option α} {f : α → Res PV} {r : PV} {M : Mem} (h : opt o .no f = .ok r M) : ∃ a, o = some a ∧ f a = .ok r M := by
  cases o with
  | none => cases h
  | some a => exact ⟨a, rfl, h⟩
theorem ob_onI {v : PV} {f : Int → Res PV} {r : PV} {M : Mem} (h : v.onI .no f = .ok r M) : ∃ a, v = .int a ∧ f a = .ok r M := by
  cases v <;> first | cases h; done | exact ⟨_, rfl, h⟩
theorem ob_yes {k : Bool} {f : Res PV} {r : PV} {M : Mem} (h : yes k f .no = .ok r M) : k = true ∧ f = .ok r M := by
  cases k
  · cases h
  · exact ⟨rfl, h⟩
theorem nb_cm (op : Cm) : ∀ M v w r M', evCm op M v w = .ok r M' → ∃ k, r = .bl k := fun M v w r M' h => by
  cases op
  case eq => obtain ⟨a, _, h⟩ := ob_opt h; cases h; exact ⟨_, rfl⟩
  case ne => obtain ⟨a, _, h⟩ := ob_opt h; cases h; exact ⟨_, rfl⟩
  case isIn => obtain ⟨a, _, h⟩ := ob_opt h; cases h; exact ⟨_, rfl⟩
  case notIn => obtain ⟨a, _, h⟩ := ob_opt h; cases h; exact ⟨_, rfl⟩
  case is => obtain ⟨_, h⟩ := ob_yes h; cases h; exact ⟨_, rfl⟩
  case isNot => obtain ⟨_, h⟩ := ob_yes h; cases h; exact ⟨_, rfl⟩
  all_goals
    obtain ⟨i, _, h⟩ := ob_onI h
    obtain ⟨j, _, h⟩ := ob_onI h
    cases h
    exact ⟨_, rfl⟩
/-! ### the parts, by what is known of their parts -/
section
variable {CX : CXT} {c : Cc} {X : Cx} {F : Fr} {e : Expr}
/-- what is to be shown of an expression, in every context -/
def IE (CX : CXT) (x : E) : Prop := ∀ {c : Cc} {X : Cx} {F : Fr} {e : Expr}, Fit CX c X F → chkE c e x = true → SE X F e (denE x)
def IL (CX : CXT) (l : List E) : Prop := ∀ {c : Cc} {X : Cx} {F : Fr} {es : List Expr}, Fit CX c X F → chkL c es l = true → PA X es (tL F (denL l)) ∧ es.all plain = true ∧ es.length = l.length ∧ ∀ e0 x0, es = [e0] → l = [x0] → PE X e0 (tE F (denE x0))
def IA (CX : CXT) (l : List A) : Prop := ∀ {c : Cc} {X : Cx} {F : Fr} {es : List Expr}, Fit CX c X F → chkAs c es l = true → PA X es (tL F (denSt l))
def ID (CX : CXT) (l : List D) : Prop := ∀ {c : Cc} {X : Cx} {F : Fr} {pos : Pos} {ks : List (Option Expr)} {vs : List Expr}, Fit CX c X F → chkD c ks vs l = true → PPs X pos ks vs (tPs F (denDs l)) ∧ ks.all (·.isSome) = true ∧ ks.length = vs.length ∧ (denDs l).length = ks.length
def IO (CX : CXT) (o : Option E) : Prop := ∀ {c : Cc} {X : Cx} {F : Fr} {e : Option Expr}, Fit CX c X F → chkO c e o = true → PO X e (tO F (denO o))
def IB (CX : CXT) (o : Option E) : Prop := ∀ {c : Cc} {X : Cx} {F : Fr} {l : List Expr}, Fit CX c X F → chkB c l o = true → PTs X l (tB F (denB o))
def II (CX : CXT) (i : I) : Prop := ∀ {c : Cc} {X : Cx} {F : Fr} {tg e : Expr}, Fit CX c X F → chkI c tg e i = true → PI X tg e (tI F (denI i))
def IG (CX : CXT) (g : G) : Prop := ∀ {c : Cc} {X : Cx} {F : Fr} {e : Expr}, Fit CX c X F → chkG c e g = true → PG X e (tG F (gIx g) (denG g))
def IGl (CX : CXT) (g : List G) : Prop := ∀ {c : Cc} {X : Cx} {F : Fr} {es : List Expr}, Fit CX c X F → chkGl c es g = true → PGs X es (tGl F (gIxs g) (denGl g)) ∧ es.all plain = true ∧ es.length = g.length
theorem k_var {i : Nat} (T : Fit CX c X F) (h : chkE c e (.var i) = true) : SE X F e (denE (.var i)) := by
  unfold chkE at h
  split at h
  · next x p =>
    simp only [Bool.and_eq_true, beq_iff_eq, Bool.not_eq_true'] at h
    obtain ⟨⟨⟨h1, h2⟩, h3⟩, h4⟩ := h
    exact .of T.K (e_var (by rw [T.N]; exact h1) (T.vis h2) h3 h4) (fun _ => rfl) fun _ _ _ z => by cases z
  · cases h
theorem k_int {i : Int} (T : Fit CX c X F) (h : chkE c e (.int i) = true) : SE X F e (denE (.int i)) := by
  unfold chkE at h
  split at h
  · next j _ _ =>
    obtain rfl := beq_iff_eq.mp h
    exact .of T.K e_int (fun _ => rfl) fun _ _ _ z => by cases z
  · cases h
theorem k_bl {i : Bool} (T : Fit CX c X F) (h : chkE c e (.bl i) = true) : SE X F e (denE (.bl i)) := by
  unfold chkE at h
  split at h
  · next j _ _ =>
    obtain rfl := beq_iff_eq.mp h
    exact .of T.K e_bl (fun _ => rfl) fun _ _ _ z => by cases z
  · cases h
theorem k_non (T : Fit CX c X F) (h : chkE c e .non = true) : SE X F e (denE .non) := by
  unfold chkE at h
  split at h
  · exact .of T.K e_non (fun _ => rfl) fun _ _ _ z => by cases z
  · cases h
theorem k_str {s : List Nat} (T : Fit CX c X F) (h : chkE c e (.str s) = true) : SE X F e (denE (.str s)) := by
  unfold chkE at h
  split at h
  · next x _ _ =>
    simp only [Bool.and_eq_true, decide_eq_true_eq, List.all_eq_true] at h
    obtain ⟨⟨h1, h2⟩, h3⟩ := h
    exact .of T.K (e_str ⟨h2, h3⟩ h1) (fun _ => rfl) fun _ _ _ z => by cases z
  · cases h
theorem conEq_eq {v w : PV} (h : conEq v w = true) : v = w := by
  cases v <;> cases w <;> first | (cases h; done) | skip
  · exact congrArg PV.bl (beq_iff_eq.mp h)
  · exact congrArg PV.int (beq_iff_eq.mp h)
  · exact congrArg PV.str (of_decide_eq_true h)
theorem k_con {v : PV} (T : Fit CX c X F) (h : chkE c e (.con v) = true) : SE X F e (denE (.con v)) := by
  unfold chkE at h
  split at h
  · next x p =>
    simp only [Bool.and_eq_true, Bool.not_eq_true'] at h
    obtain ⟨⟨h1, h2⟩, h3⟩ := h
    cases q : c.cons.lookup x with
    | none => rw [q] at h3; cases h3
    | some w =>
      rw [q] at h3
      obtain rfl := conEq_eq h3
      obtain ⟨u, w, g1, g2, g3⟩ := T.con x v q
      exact .of T.K (e_val (pe_glob (T.gl h1) g1 g2 h2) g3) (fun _ => rfl) fun _ _ _ z => by cases z
  · cases h
theorem len_denL : ∀ l : List E, LenLe (denL l) l.length
  | [] => len_nil
  | _ :: r => len_cons (len_denL r)
theorem k_tup {f : Bool} {es : List E} (I : IL CX es) (T : Fit CX c X F) (h : chkE c e (.tup f es) = true) : SE X F e (denE (.tup f es)) := by
  unfold chkE at h
  split at h
  · next l _ _ =>
    simp only [Bool.and_eq_true, decide_eq_true_eq] at h
    obtain ⟨h1, h2⟩ := h
    obtain ⟨pa, _, hl, _⟩ := I T h1
    have hn : LenLe (denL es) sizeLine := fun c ρ M G E q => (len_denL es c ρ M G E q).mono (fun _ _ q => ⟨by omega, q.2⟩) fun _ _ _ q => q
    cases f with
    | false => exact .of T.K (e_tup pa hn) (fun _ => rfl) fun _ _ _ z => by cases z
    | true => exact .of T.K (e_tupF pa hn) (fun _ => rfl) fun _ _ _ z => by cases z
  · cases h
theorem k_lst {es : List E} (I : IL CX es) (T : Fit CX c X F) (h : chkE c e (.lst es) = true) : SE X F e (denE (.lst es)) := by
  unfold chkE at h
  split at h
  · next l _ =>
    simp only [Bool.and_eq_true, decide_eq_true_eq] at h
    obtain ⟨h1, h2⟩ := h
    obtain ⟨pa, _, hl, _⟩ := I T h1
    have hn : LenLe (denL es) sizeLine := fun c ρ M G E q => (len_denL es c ρ M G E q).mono (fun _ _ q => ⟨by omega, q.2⟩) fun _ _ _ q => q
    exact .of T.K (e_lst pa hn) (fun _ => rfl) fun _ _ _ z => by cases z
  · cases h
theorem k_dnew {t : Bool} (T : Fit CX c X F) (h : chkE c e (.dnew t) = true) : SE X F e (denE (.dnew t)) := by
  unfold chkE at h
  split at h
  · cases t with
    | false => exact .of T.K e_dnewK (fun _ => rfl) fun _ _ _ z => by cases z
    | true => exact .of T.K e_dnewT (fun _ => rfl) fun _ _ _ z => by cases z
  · cases h
theorem k_dct {t : Bool} {ps : List D} (I : ID CX ps) (T : Fit CX c X F) (h : chkE c e (.dct t ps) = true) : SE X F e (denE (.dct t ps)) := by
  unfold chkE at h
  split at h
  · next ks vs _ =>
    simp only [Bool.and_eq_true, decide_eq_true_eq, Bool.not_eq_true'] at h
    obtain ⟨⟨h1, h2⟩, h3⟩ := h
    obtain ⟨pp, ha, hl, hq⟩ := I T h1
    have u := T.un
    exact .of T.K (e_disp (by omega) pp ha hl (fun z => by subst z; cases h2) h3 (by omega)) (fun _ => rfl) fun _ _ _ z => by cases z
  · cases h
theorem k_bin {op : Ev.Op} {a b : E} (Ia : IE CX a) (Ib : IE CX b) (T : Fit CX c X F) (h : chkE c e (.bin op a b) = true) : SE X F e (denE (.bin op a b)) := by
  unfold chkE at h
  split at h
  · simp only [Bool.and_eq_true] at h
    obtain ⟨⟨h1, h2⟩, h3⟩ := h
    exact .of T.K (e_bin (nx_op op) (op_ok T h1) (Ia T h2).e (Ib T h3).e) (fun _ => rfl) fun _ _ _ z => by cases z
  · cases h
theorem nx_neg (M : Mem) (v : PV) : NX (negV M v) := nx_onI nx_no fun _ => nx_ok
theorem k_neg {a : E} (Ia : IE CX a) (T : Fit CX c X F) (h : chkE c e (.neg a) = true) : SE X F e (denE (.neg a)) := by
  unfold chkE at h
  split at h
  · exact .of T.K (e_un nx_neg u_neg (Ia T h).e) (fun _ => rfl) fun _ _ _ z => by cases z
  · cases h
theorem k_not {a : E} (Ia : IE CX a) (T : Fit CX c X F) (h : chkE c e (.not a) = true) : SE X F e (denE (.not a)) := by
  unfold chkE at h
  split at h
  · exact .two (e_not T.K (Ia T h).e) (x_not (Ia T h).t) fun _ _ _ z => by cases z
  · cases h
theorem k_and {a b : E} (Ia : IE CX a) (Ib : IE CX b) (T : Fit CX c X F) (h : chkE c e (.and a b) = true) : SE X F e (denE (.and a b)) := by
  unfold chkE at h
  split at h
  · simp only [Bool.and_eq_true] at h
    exact .bool (e_and T.K (Ia T h.1).e (e_one (Ib T h.2).e)) (w_and (Ia T h.1).t (w_and1 (Ib T h.2).t))
  · simp only [Bool.and_eq_true] at h
    exact .bool (e_and T.K (Ia T h.1).e (Ib T h.2).e) (w_and (Ia T h.1).t ((Ib T h.2).w _ _ _ rfl))
  · cases h
theorem k_or {a b : E} (Ia : IE CX a) (Ib : IE CX b) (T : Fit CX c X F) (h : chkE c e (.or a b) = true) : SE X F e (denE (.or a b)) := by
  unfold chkE at h
  split at h
  · simp only [Bool.and_eq_true] at h
    exact .bool (e_or T.K (Ia T h.1).e (e_one (Ib T h.2).e)) (w_or (Ia T h.1).t (w_or1 (Ib T h.2).t))
  · simp only [Bool.and_eq_true] at h
    exact .bool (e_or T.K (Ia T h.1).e (Ib T h.2).e) (w_or (Ia T h.1).t ((Ib T h.2).w _ _ _ rfl))
  · cases h
theorem k_cmp {op : Cm} {a b : E} (Ia : IE CX a) (Ib : IE CX b) (T : Fit CX c X F) (h : chkE c e (.cmp op a b) = true) : SE X F e (denE (.cmp op a b)) := by
  unfold chkE at h
  split at h
  · simp only [Bool.and_eq_true, Bool.not_eq_true'] at h
    obtain ⟨⟨⟨h1, h2⟩, h3⟩, h4⟩ := h
    exact .two (e_cmp (nx_cm op) (cm_ok T h1) (Ia T h2).e (Ib T h3).e h4) (x_cmp (nx_cm op) (nb_cm op) (cm_ok T h1) (Ia T h2).e (Ib T h3).e h4) fun _ _ _ z => by cases z
  · cases h
theorem isT_cmpR {a : Expr} {op : CmpOp} {b : Expr} {p : Pos} : True := trivial
theorem k_chain {op op' : Cm} {a b d : E} (Ia : IE CX a) (Ib : IE CX b) (Id : IE CX d) (T : Fit CX c X F) (h : chkE c e (.chain op op' a b d) = true) : SE X F e (denE (.chain op op' a b d)) := by
  unfold chkE at h
  split at h
  · simp only [Bool.and_eq_true, Bool.not_eq_true'] at h
    obtain ⟨⟨⟨⟨⟨⟨h1, h2⟩, h3⟩, h4⟩, h5⟩, h6⟩, h7⟩ := h
    exact .two (e_chain (nx_cm op) (nx_cm op') (cm_ok T h1) (cm_ok T h2) (Ia T h3).e (Ib T h4).e (Id T h5).e h7) (x_chain (nx_cm op) (nx_cm op') (nb_cm op') (cm_ok T h1) (cm_ok T h2) (Ia T h3).e (Ib T h4).e (Id T h5).e h7) fun _ _ _ z => by cases z
  · cases h
theorem k_ite {t a b : E} (It : IE CX t) (Ia : IE CX a) (Ib : IE CX b) (T : Fit CX c X F) (h : chkE c e (.ite t a b) = true) : SE X F e (denE (.ite t a b)) := by
  unfold chkE at h
  split at h
  · simp only [Bool.and_eq_true] at h
    obtain ⟨⟨h1, h2⟩, h3⟩ := h
    exact .two (e_ite (It T h1).t (Ia T h2).e (Ib T h3).e) (x_ite (It T h1).t (Ia T h2).t (Ib T h3).t) fun _ _ _ z => by cases z
  · cases h
theorem nx_idx (M : Mem) (v w : PV) : NX (evIdx M v w) := by
  show NX (v.el .no (fun _ => .no) (fun _ => .no) _ _ _ fun _ => .no)
  repeat' first
    | exact nx_ok
    | exact nx_no
    | intro _
    | apply nx_yes
    | apply nx_opt
    | apply nx_onI
    | apply nx_el
theorem k_idx {a b : E} (Ia : IE CX a) (Ib : IE CX b) (T : Fit CX c X F) (h : chkE c e (.idx a b) = true) : SE X F e (denE (.idx a b)) := by
  unfold chkE at h
  split at h
  · simp only [Bool.and_eq_true] at h
    obtain ⟨⟨h1, h2⟩, h3⟩ := h
    have u := T.un
    exact .of T.K (e_idx nx_idx (ix_all T.K (by omega)) (Ia T h1).e (Ib T h2).e (ix_plain h3)) (fun _ => rfl) fun _ _ _ z => by cases z
  · cases h
theorem k_cut {a : E} {lo hi : Option E} (Ia : IE CX a) (Il : IO CX lo) (Ih : IO CX hi) (T : Fit CX c X F) (h : chkE c e (.cut a lo hi) = true) : SE X F e (denE (.cut a lo hi)) := by
  unfold chkE at h
  split at h
  · simp only [Bool.and_eq_true] at h
    obtain ⟨⟨h1, h2⟩, h3⟩ := h
    exact .of T.K (e_cut T.K (Ia T h1).e (Il T h2) (Ih T h3)) (fun _ => rfl) fun _ _ _ z => by cases z
  · cases h
theorem k_cmpR {ne : Bool} {a b : E} (Ia : IE CX a) (Ib : IE CX b) (T : Fit CX c X F) (h : chkE c e (.cmpR ne a b) = true) : SE X F e (denE (.cmpR ne a b)) := by
  unfold chkE at h
  split at h
  · next r1 _ x _ o r2 _ y _ _ =>
    simp only [Bool.and_eq_true, beq_iff_eq] at h
    obtain ⟨⟨⟨⟨⟨⟨⟨⟨h1, h2⟩, h3⟩, h4⟩, h5⟩, h6⟩, h7⟩, h8⟩, h9⟩ := h
    subst h1 h2
    have ho : (o = .Eq ∧ ne = false) ∨ (o = .NotEq ∧ ne = true) := by
      cases ne <;> cases o <;> first | (cases h5; done) | exact .inl ⟨rfl, rfl⟩ | exact .inr ⟨rfl, rfl⟩
    obtain ⟨q1, q2⟩ := e_cmpR T.K T.gd T.un ho (T.gl h3) (T.mg h4) (Ia T h8).e (Ib T h9).e (star_plain h6) (star_plain h7) rfl
    exact .two q1 q2 fun _ _ _ z => by cases z
  · cases h
theorem k_rng1 {t : Bool} {a : E} (Ia : IE CX a) (T : Fit CX c X F) (h : chkE c e (.rngT t (.rng1 a)) = true) : SE X F e (denE (.rngT t (.rng1 a))) := by
  unfold chkE at h
  split at h
  · next nm p1 p2 es p3 p4 =>
    simp only [Bool.and_eq_true, beq_iff_eq] at h
    obtain ⟨⟨⟨⟨h1, h2⟩, h3⟩, h4⟩, _⟩ := h
    unfold chkI at h4
    split at h4
    · next nm2 _ y _ e2 =>
      injection e2 with e3 e4 e5 e6
      injection e3 with e7 e8
      subst e4 e7
      simp only [Bool.and_eq_true, beq_iff_eq] at h4
      obtain ⟨⟨⟨⟨g1, g2⟩, g3⟩, g4⟩, g5⟩ := h4
      cases t with
      | false =>
        have h1 : nm = ("list" : Str) := h1
        subst h1
        exact .of T.K (e_rgL T.calm (T.gl h2) (T.mg h3) (prg_1 (T.gl g2) (T.mg g3) (Ia T g5).e (star_plain g4)) rfl fun σ H Q q => toRg1 q) (fun _ => rfl) fun _ _ _ z => by cases z
      | true =>
        have h1 : nm = ("tuple" : Str) := h1
        subst h1
        exact .of T.K (e_rgT T.calm (T.gl h2) (T.mg h3) (prg_1 (T.gl g2) (T.mg g3) (Ia T g5).e (star_plain g4)) rfl fun σ H Q q => toRg1 q) (fun _ => rfl) fun _ _ _ z => by cases z
    · cases h4
  · cases h
theorem k_rng2 {t : Bool} {a b : E} (Ia : IE CX a) (Ib : IE CX b) (T : Fit CX c X F) (h : chkE c e (.rngT t (.rng2 a b)) = true) : SE X F e (denE (.rngT t (.rng2 a b))) := by
  unfold chkE at h
  split at h
  · next nm p1 p2 es p3 p4 =>
    simp only [Bool.and_eq_true, beq_iff_eq] at h
    obtain ⟨⟨⟨⟨h1, h2⟩, h3⟩, h4⟩, _⟩ := h
    unfold chkI at h4
    split at h4
    · next nm2 _ y z _ e2 =>
      injection e2 with e3 e4 e5 e6
      injection e3 with e7 e8
      subst e4 e7
      simp only [Bool.and_eq_true, beq_iff_eq] at h4
      obtain ⟨⟨⟨⟨⟨⟨g1, g2⟩, g3⟩, g4⟩, g5⟩, g6⟩, g7⟩ := h4
      cases t with
      | false =>
        have h1 : nm = ("list" : Str) := h1
        subst h1
        exact .of T.K (e_rgL T.calm (T.gl h2) (T.mg h3) (prg_2 (T.gl g2) (T.mg g3) (Ia T g6).e (Ib T g7).e (star_plain g4) (star_plain g5) (stars_any (by rw [List.all_cons, g5]; rfl))) rfl fun σ H Q q => toRg2 q) (fun _ => rfl) fun _ _ _ z => by cases z
      | true =>
        have h1 : nm = ("tuple" : Str) := h1
        subst h1
        exact .of T.K (e_rgT T.calm (T.gl h2) (T.mg h3) (prg_2 (T.gl g2) (T.mg g3) (Ia T g6).e (Ib T g7).e (star_plain g4) (star_plain g5) (stars_any (by rw [List.all_cons, g5]; rfl))) rfl fun σ H Q q => toRg2 q) (fun _ => rfl) fun _ _ _ z => by cases z
    · cases h4
  · cases h
theorem k_rngX {t : Bool} {a : I} (h : chkE c e (.rngT t a) = true) (n : ∀ x, a ≠ .rng1 x) (m : ∀ x y, a ≠ .rng2 x y) : False := by
  unfold chkE at h
  split at h
  · simp only [Bool.and_eq_true] at h
    cases a with
    | rng1 x => exact n x rfl
    | rng2 x y => exact m x y rfl
    | _ => exact absurd h.2 (by decide)
  · cases h
theorem k_call {g : Nat} {es : List E} (I : IL CX es) (T : Fit CX c X F) (h : chkE c e (.call g es) = true) : SE X F e (denE (.call g es)) := by
  unfold chkE at h
  split at h
  · next x p l pos =>
    simp only [Bool.and_eq_true, beq_iff_eq, Bool.not_eq_true'] at h
    obtain ⟨⟨⟨⟨h1, h2⟩, h3⟩, h4⟩, h5⟩ := h
    obtain ⟨pa, _, hl, _⟩ := I T h5
    obtain ⟨k, f, fd, ps, q1, q2, q3, q4, q5⟩ := T.call x g h2
    obtain ⟨E, p1, p2⟩ := T.pass
    refine .of T.K (e_call T.K q1 q2 T.gd (T.gl h1) q3 q4 q5 p1 p2 pa h3 (fun e r z => ?_) (fun e r z => ?_) fun z => ?_) (fun _ => rfl) fun _ _ _ z => by cases z
    · subst z; rw [List.all_cons, Bool.and_eq_true] at h4; exact star_plain h4.1
    · subst z; rw [List.all_cons, Bool.and_eq_true] at h4; exact stars_any h4.2
    · subst z
      cases es with
      | nil => rfl
      | cons _ _ => cases hl
  · cases h
theorem k_comp {elt : E} {g : G} {it : I} {ifs : Option E} {own : List Nat} (Ie : IE CX elt) (Ig : IG CX g) (Ii : II CX it) (If : IB CX ifs) (T : Fit CX c X F) (h : chkE c e (.comp elt g it ifs own) = true) : SE X F e (denE (.comp elt g it ifs own)) := by
  unfold chkE at h
  split at h
  · next x tg iter fs sc pos =>
    simp only [Bool.and_eq_true] at h
    obtain ⟨⟨⟨⟨⟨⟨h1, h2⟩, h3⟩, h4⟩, h5⟩, h6⟩, h7⟩ := h
    have hn : (c.own own).map (·.2) = own := by
      unfold Cc.own
      rw [List.map_map]
      exact List.map_id own
    have hs : ∀ j ∈ gIx g, j ∈ (c.own own).map (·.2) := fun j hj => by
      rw [hn]
      exact List.contains_iff_mem.mp (List.all_eq_true.mp h2 j hj)
    have q := e_comp (pos := pos) (elt := x) (F := F) (el := denE elt) (k := denB ifs) T.calm T.nd (Ii T h4) (by rw [T.N, T.sc]; exact blkOk_by h1) hs (fun s H C cl fp => Ig (T.blk s H sc cl C fp) h5) (fun s H C cl fp => If (T.blk s H sc cl C fp) h6) (fun s H C cl fp => (Ie (T.blk s H sc cl C fp) h7).e) (set_plain h3)
    rw [hn] at q
    exact .of T.K q (fun _ => rfl) fun _ _ _ z => by cases z
  · cases h
theorem k_dcomp {t : Bool} {kx vx : E} {g : G} {it : I} {ifs : Option E} {own : List Nat} (Ik : IE CX kx) (Iv : IE CX vx) (Ig : IG CX g) (Ii : II CX it) (If : IB CX ifs) (T : Fit CX c X F) (h : chkE c e (.dcomp t kx vx g it ifs own) = true) : SE X F e (denE (.dcomp t kx vx g it ifs own)) := by
  unfold chkE at h
  split at h
  · next x y tg iter fs sc pos =>
    simp only [Bool.and_eq_true, Bool.not_eq_true'] at h
    obtain ⟨⟨⟨⟨⟨⟨⟨⟨h0, h1⟩, h2⟩, h3⟩, h4⟩, h5⟩, h6⟩, h7⟩, h8⟩ := h
    subst h0
    have hn : (c.own own).map (·.2) = own := by
      unfold Cc.own
      rw [List.map_map]
      exact List.map_id own
    have hs : ∀ j ∈ gIx g, j ∈ (c.own own).map (·.2) := fun j hj => by
      rw [hn]
      exact List.contains_iff_mem.mp (List.all_eq_true.mp h2 j hj)
    have q := e_dcomp (pos := pos) (F := F) (k := denB ifs) T.calm T.nd (Ii T h4) (by rw [T.N, T.sc]; exact blkOk_by h1) hs (fun s H C cl fp => Ig (T.blk s H sc cl C fp) h5) (fun s H C cl fp => If (T.blk s H sc cl C fp) h6) (fun s H C cl fp => (Ik (T.blk s H sc cl C fp) h7).e) (fun s H C cl fp => (Iv (T.blk s H sc cl C fp) h8).e) (set_plain h3)
    rw [hn] at q
    exact .of T.K q (fun _ => rfl) fun _ _ _ z => by cases z
  · cases h
end
end Ev

set_option Elab.async false
set_option linter.all false
set_option maxRecDepth 100000
set_option maxHeartbeats 1000000
/-! Sk9: .. built-in functions, methods, targets; the induction. -/
namespace Ev
open PySem PySem.Spec PyProof.Rows L2
theorem ty_boot (t : Ty) : bootBuiltins (tyNm t) = some (.type (tyName t)) ∧ tyNm t ≠ "__name__" ∧ (tyNm t == ("__debug__" : Str)) = false := by
  cases t <;> exact ⟨by decide +kernel, by decide, by decide⟩
section
variable {CX : CXT} {c : Cc} {X : Cx} {F : Fr} {e : Expr}
theorem e_ty {t : Ty} {p : Pos} (T : Fit CX c X F) (h1 : c.gl (tyNm t) = true) (h2 : c.fr.contains (tyNm t) = true) : PE X (.Name (tyNm t) p) (tC (.ty (tyName t))) :=
  pe_bltn (T.gl h1) (T.mg h2) (ty_boot t).1 rfl (ty_boot t).2.1 (ty_boot t).2.2
theorem a_tys (T : Fit CX c X F) : ∀ {zs : List Expr} {ts : List Ty}, namesOf zs = some (ts.map tyNm) → (ts.all fun t => c.gl (tyNm t) && c.fr.contains (tyNm t)) = true → PA X zs (fun _ H Q => Q (ts.map fun t => L2.V.ty (tyName t)) H)
  | [], [], _, _ => pa_nil
  | [], _ :: _, h, _ => by cases h
  | z :: zs, ts, h, q => by
    unfold namesOf at h
    split at h
    · next e => cases e
    · next x p r e =>
      cases e
      cases e2 : namesOf zs with
      | none => rw [e2] at h; cases h
      | some l =>
        rw [e2] at h
        cases ts with
        | nil => cases h
        | cons t ts =>
          have h := Option.some.inj h
          rw [List.map_cons] at h
          injection h with h1 h2
          subst h1 h2
          rw [List.all_cons, Bool.and_eq_true, Bool.and_eq_true] at q
          have ih := a_tys T (zs := zs) (ts := ts) e2 q.2
          exact (pa_cons (e_ty T q.1.1 q.1.2) ih (star_plain rfl)).imp fun σ H Q h => h
    · cases h
theorem k_bi {b : Bi} {es : List E} (I : IL CX es) (T : Fit CX c X F) (h : chkE c e (.bi b es) = true) : SE X F e (denE (.bi b es)) := by
  unfold chkE at h
  split at h
  · next x p l pos =>
    simp only [Bool.and_eq_true] at h
    obtain ⟨⟨h1, h2⟩, h3⟩ := h
    split at h3
    · next ts hb =>
      obtain rfl : b = .isi ts := by cases b <;> first | (cases hb; done) | (cases hb; rfl)
      split at h3
      · next y z =>
        simp only [Bool.and_eq_true, beq_iff_eq] at h3
        obtain ⟨⟨g1, g2⟩, g3⟩ := h3
        subst g1
        obtain ⟨pa, pl, hl, p1⟩ := I T g3
        -- the one argument
        cases es with
        | nil => cases hl
        | cons e1 r =>
          cases r with
          | cons _ _ => cases hl
          | nil =>
            have py := p1 y e1 rfl rfl
            rw [List.all_cons, Bool.and_eq_true] at pl
            have hd : denE (.bi (.isi ts) [e1]) = sBi (b1 (biIsi ts)) (lCons (denE e1) lNil) := rfl
            rw [hd]
            unfold isiC at g2
            split at g2
            · next z' p' =>
              split at g2
              · next t =>
                simp only [Bool.and_eq_true, beq_iff_eq] at g2
                obtain ⟨⟨rfl, f2⟩, f3⟩ := g2
                exact .of T.K (e_isi1 T.K py (T.gl h1) (T.mg h2) (e_ty T f2 f3) (star_plain pl.1) (star_plain rfl) rfl) (fun _ => rfl) fun _ _ _ z => by cases z
              · cases g2
            · next zs k p' =>
              simp only [Bool.and_eq_true, decide_eq_true_eq] at g2
              obtain ⟨⟨f1, f2⟩, f3⟩ := g2
              have pt := pe_tup (x1 := k) (pos := p') (a_tys T f1 f3)
              refine .of T.K (e_isiT T.K py (T.gl h1) (T.mg h2) (pt.imp fun σ H Q q => ⟨by rw [List.length_map, sizeLine_eq]; omega, q⟩) (star_plain pl.1) (star_plain rfl) rfl) (fun _ => rfl) fun _ _ _ z => by cases z
            · cases g2
      · cases h3
    · simp only [Bool.and_eq_true, decide_eq_true_eq] at h3
      obtain ⟨⟨g1, g2⟩, g3⟩ := h3
      obtain ⟨pa, _, _, _⟩ := I T g3
      exact .of T.K (bi_ok T g1 (T.gl h1) (T.mg h2) g2 pa) (fun _ => rfl) fun _ _ _ z => by cases z
  · cases h
theorem base_noCall {o : Expr} {nm : Str} {env : Env} {w : Sem Value} (h : noCall o = true) : attributeBase o nm env w = w := by
  unfold attributeBase
  split
  · cases h
  · rfl
theorem k_me {m : Me} {o : E} {es : List E} (Io : IE CX o) (I : IL CX es) (T : Fit CX c X F) (h : chkE c e (.me m o es) = true) : SE X F e (denE (.me m o es)) := by
  unfold chkE at h
  split at h
  · next x nm ap l cp =>
    simp only [Bool.and_eq_true, decide_eq_true_eq] at h
    obtain ⟨⟨⟨⟨⟨h1, h2⟩, h3⟩, h4⟩, h5⟩, h6⟩ := h
    obtain ⟨pa, _, hl, _⟩ := I T h6
    have po := (Io T h5).e
    have u := T.un
    have hb := base_noCall (nm := nm) (env := X.env) (w := eval x X.env) h4
    refine .of T.K ?_ (fun _ => rfl) fun _ _ _ z => by cases z
    have go : ∀ e r, l = e :: r → r.length ≤ 1 → PE X (.Call (.Attribute x nm ap) l [] cp) (tMe X nm (tE F (denE o)) (tL F (denL es))) := fun e r z hr => by
      subst z
      rw [List.all_cons, Bool.and_eq_true] at h2
      refine pe_me po pa hb ?_ h3 (star_plain h2.1) (stars_any h2.2)
      have hall : ∀ {es : List Expr}, es.all plain = true → (backTo cp (starEach es X.env)).all (fun x => !x.1) = true := fun {es} q => by
        have := stars_any (env := X.env) (pos := cp) q
        rw [List.any_eq_false] at this
        rw [List.all_eq_true]
        intro y hy
        have := this y hy
        cases hz : y.1 with
        | true => exact absurd hz this
        | false => rfl
      rw [hall (by rw [List.all_cons, h2.1, h2.2]; rfl)]
      show (true && true && decide ((e :: r).length + 0 + 0 < 30)) = true
      rw [List.length_cons]
      simp
      omega
    cases m
    case append =>
      obtain ⟨rfl, h1⟩ : ("append" : Str) = nm ∧ 1 = l.length := by injection h1 with h1; injection h1 with a b; exact ⟨a, b⟩
      match l, h1 with
      | [e1], _ => exact e_append (e := e1) T.K (go e1 [] rfl (by simp))
    case extend =>
      obtain ⟨rfl, h1⟩ : ("extend" : Str) = nm ∧ 1 = l.length := by injection h1 with h1; injection h1 with a b; exact ⟨a, b⟩
      match l, h1 with
      | [e1], _ => exact e_extend (e := e1) T.K (go e1 [] rfl (by simp))
    case popAt =>
      obtain ⟨rfl, h1⟩ : ("pop" : Str) = nm ∧ 1 = l.length := by injection h1 with h1; injection h1 with a b; exact ⟨a, b⟩
      match l, h1 with
      | [e1], _ => exact e_popAt (e := e1) T.K (go e1 [] rfl (by simp))
    case index =>
      obtain ⟨rfl, h1⟩ : ("index" : Str) = nm ∧ 1 = l.length := by injection h1 with h1; injection h1 with a b; exact ⟨a, b⟩
      match l, h1 with
      | [e1], _ => exact e_index (e := e1) T.K u (go e1 [] rfl (by simp))
    case count =>
      obtain ⟨rfl, h1⟩ : ("count" : Str) = nm ∧ 1 = l.length := by injection h1 with h1; injection h1 with a b; exact ⟨a, b⟩
      match l, h1 with
      | [e1], _ => exact e_count (e := e1) T.K u (go e1 [] rfl (by simp))
    case update =>
      obtain ⟨rfl, h1⟩ : ("update" : Str) = nm ∧ 1 = l.length := by injection h1 with h1; injection h1 with a b; exact ⟨a, b⟩
      match l, h1 with
      | [e1], _ => exact e_update (e := e1) (go e1 [] rfl (by simp))
    case get2 =>
      obtain ⟨rfl, h1⟩ : ("get" : Str) = nm ∧ 2 = l.length := by injection h1 with h1; injection h1 with a b; exact ⟨a, b⟩
      match l, h1 with
      | [e1, e2], _ => exact e_get2 (e := e1) (by omega) (go e1 [e2] rfl (by simp))
    case pop =>
      obtain ⟨rfl, h1⟩ : ("pop" : Str) = nm ∧ 0 = l.length := by injection h1 with h1; injection h1 with a b; exact ⟨a, b⟩
      match l, es, h1, hl with
      | [], [], _, _ => exact e_pop T.K (pe_me0 po hb h3)
    case remove => cases h1
  · cases h
/-! ### lists, bounds, tests, loops, targets -/
theorem k_nil : IL CX [] := fun {c X F es} T h => by
  unfold chkL at h
  split at h
  · exact ⟨l_nil, rfl, rfl, fun _ _ z => by cases z⟩
  · cases h
theorem k_cons {e : E} {r : List E} (I : IE CX e) (Ir : IL CX r) : IL CX (e :: r) := fun {c X F es} T h => by
  unfold chkL at h
  split at h
  · simp only [Bool.and_eq_true] at h
    obtain ⟨⟨h1, h2⟩, h3⟩ := h
    obtain ⟨pa, pl, hl, _⟩ := Ir T h3
    refine ⟨l_cons (I T h2).e pa (star_plain h1), by rw [List.all_cons, h1, pl]; rfl, by rw [List.length_cons, List.length_cons, hl], fun e0 x0 z1 z2 => ?_⟩
    injection z1 with a1 _
    injection z2 with b1 _
    subst a1 b1
    exact (I T h2).e
  · cases h
theorem k_dnil : ID CX [] := fun {c X F pos ks vs} T h => by
  unfold chkD at h
  split at h
  · exact ⟨pps_nil, rfl, rfl, rfl⟩
  · cases h
theorem k_dcons {k v : E} {r : List D} (Ik : IE CX k) (Iv : IE CX v) (Ir : ID CX r) : ID CX (.kv k v :: r) := fun {c X F pos ks vs} T h => by
  unfold chkD at h
  split at h
  · simp only [Bool.and_eq_true] at h
    obtain ⟨h1, h2⟩ := h
    unfold chkP at h1
    rw [Bool.and_eq_true] at h1
    obtain ⟨p1, p2, p3, p4⟩ := Ir (pos := pos) T h2
    exact ⟨pps_cons (Ik T h1.1).e (Iv T h1.2).e p1, by rw [List.all_cons, p2]; rfl, by rw [List.length_cons, List.length_cons, p3], by show (denDs r).length + 1 = _; rw [p4, List.length_cons]⟩
  · cases h
theorem k_oNone : IO CX none := fun {c X F e} T h => by
  unfold chkO at h
  split at h
  · exact p_none
  · cases h
theorem k_oSome {x : E} (I : IE CX x) : IO CX (some x) := fun {c X F e} T h => by
  unfold chkO at h
  split at h
  · exact p_some (I T h).e
  · cases h
theorem k_bNone : IB CX none := fun {c X F e} T h => by
  unfold chkB at h
  split at h
  · exact b_yes
  · cases h
theorem k_bSome {x : E} (I : IE CX x) : IB CX (some x) := fun {c X F e} T h => by
  unfold chkB at h
  split at h
  · exact b_if (I T h).t
  · cases h
theorem k_iVal {x : E} (I : IE CX x) : II CX (.val x) := fun {c X F tg e} T h => by
  unfold chkI at h
  exact i_val T.K (I T h).e
theorem k_iRng1 {x : E} (I : IE CX x) : II CX (.rng1 x) := fun {c X F tg e} T h => by
  unfold chkI at h
  split at h
  · simp only [Bool.and_eq_true, beq_iff_eq] at h
    obtain ⟨⟨⟨⟨h1, h2⟩, h3⟩, h4⟩, h5⟩ := h
    subst h1
    have s := star_plain (r := []) (env := X.env) h4
    exact i_rng1 (T.gl h2) (T.mg h3) (l_cons (I T h5).e l_nil s) s
  · cases h
theorem k_iRng2 {x y : E} (I : IE CX x) (J : IE CX y) : II CX (.rng2 x y) := fun {c X F tg e} T h => by
  unfold chkI at h
  split at h
  · next a b _ =>
    simp only [Bool.and_eq_true, beq_iff_eq] at h
    obtain ⟨⟨⟨⟨⟨⟨h1, h2⟩, h3⟩, h4⟩, h5⟩, h6⟩, h7⟩ := h
    subst h1
    have s2 := star_plain (r := []) (env := X.env) h5
    have s1 := star_plain (r := [b]) (env := X.env) h4
    exact i_rng2 (T.gl h2) (T.mg h3) (l_cons (I T h6).e (l_cons (J T h7).e l_nil s2) s1) (by rw [s1, s2]; rfl) s2
  · cases h
theorem k_iEnum {x : E} (I : IE CX x) : II CX (.enum x) := fun {c X F tg e} T h => by
  unfold chkI at h
  split at h
  · simp only [Bool.and_eq_true, beq_iff_eq] at h
    obtain ⟨⟨⟨⟨h1, h2⟩, h3⟩, h4⟩, h5⟩ := h
    subst h1
    have s := star_plain (r := []) (env := X.env) h4
    exact i_enum T.K (T.gl h2) (T.mg h3) (l_cons (I T h5).e l_nil s) s
  · cases h
theorem k_iZip {x y : E} (I : IE CX x) (J : IE CX y) : II CX (.zip x y) := fun {c X F tg e} T h => by
  unfold chkI at h
  split at h
  · next a b _ =>
    simp only [Bool.and_eq_true, beq_iff_eq] at h
    obtain ⟨⟨⟨⟨⟨⟨h1, h2⟩, h3⟩, h4⟩, h5⟩, h6⟩, h7⟩ := h
    subst h1
    have s2 := star_plain (r := []) (env := X.env) h5
    have s1 := star_plain (r := [b]) (env := X.env) h4
    exact i_zip T.K (T.gl h2) (T.mg h3) (l_cons (I T h6).e (l_cons (J T h7).e l_nil s2) s1) s1 (stars_any (by rw [List.all_cons, h5]; rfl))
  · cases h
theorem k_gName {i : Nat} : IG CX (.name i) := fun {c X F e} T h => by
  unfold chkG at h
  split at h
  · simp only [Bool.and_eq_true, Bool.or_eq_true, beq_iff_eq] at h
    obtain ⟨⟨h1, h2⟩, h3⟩ := h
    exact g_name T.nd (by rw [T.N]; exact h1) (T.loc h2) (h3.imp (T.fn _) fun z => by rw [T.sc]; exact z)
  · cases h
theorem k_gTup {gs : List G} (I : IGl CX gs) : IG CX (.tup gs) := fun {c X F e} T h => by
  unfold chkG at h
  split at h
  · obtain ⟨pg, pl, hl⟩ := I T h
    exact g_tup T.K T.calm pg (by rw [asg_len, hl, len_eq]) (asg_find pl)
  · cases h
theorem k_gSub {o i : E} (Io : IE CX o) (Ii : IE CX i) : IG CX (.sub o i) := fun {c X F e} T h => by
  unfold chkG at h
  split at h
  · next o' i' p' =>
    simp only [Bool.and_eq_true] at h
    obtain ⟨⟨h1, h2⟩, h3⟩ := h
    have u := T.un
    exact g_sub (p_put (by omega)) (Io T h1).e (Ii T h2).e fun v => by cases i' <;> first | rfl | (cases h3; done)
  · cases h
theorem k_gNil : IGl CX [] := fun {c X F es} T h => by
  unfold chkGl at h
  split at h
  · exact ⟨gs_nil, rfl, rfl⟩
  · cases h
theorem k_gCons {g : G} {r : List G} (I : IG CX g) (Ir : IGl CX r) : IGl CX (g :: r) := fun {c X F es} T h => by
  unfold chkGl at h
  split at h
  · simp only [Bool.and_eq_true] at h
    obtain ⟨⟨h1, h2⟩, h3⟩ := h
    obtain ⟨pg, pl, hl⟩ := Ir T h3
    exact ⟨gs_cons (I T h2) pg (by rw [asg_plain h1]; rfl), by rw [List.all_cons, h1, pl]; rfl, by rw [List.length_cons, List.length_cons, hl]⟩
  · cases h
theorem k_never : IE CX .never := fun {c X F e} T h => by
  refine ⟨⟨fun pins s σ H Q I q => ?_⟩, ⟨fun pins s σ H Q I q => ?_⟩, fun op l p z => ⟨fun w pins s σ H Q I q => ?_⟩⟩ <;>
  · obtain ⟨μ, M, ρ, A, q⟩ := q
    exact q.elim
theorem k_gfn {g : Nat} : IE CX (.gfn g) := fun {c X F e} T h => by unfold chkE at h; cases h
/-! ### stars in displays -/
theorem star_rg {pins : List (Addr × PySem.Obj)} {s : Shared} {σ : L2.St} {H : Hp} {r : Addr} {a b : Int} {t u v : Tok} {E : Value → Shared → Prop} {Q : List Value → Shared → Prop} (hc : X.calm = true) (I : Inv X pins σ H s) (hr : IsRange s.heap r a b 1 t u v) (ok : RgOk a b)
    (hQ : ∀ us s', Inv X pins σ H s' → Vals (rgV a b) us → Q us s') : PySem.W.StarOf (model X.prog X.w) X.A E (.ref r) Q s := by
  obtain ⟨b1, b2, b3, b4, b5⟩ := ok
  have z : wpAny (model X.prog X.w) X.A (collect (.ref r)) Q E s := collect_range (n := (b - a).toNat) (I.ok.hd hc) hr (small_one b1 b2 b3 b4) (rangeSize_nat a b) b5 fun h' tk acc hk hi => hQ _ _ (I.kept hk) (vals_rg hi)
  have hT : s.TypeIs (.ref r) "range" := ⟨_, hr, rfl⟩
  unfold PySem.W.StarOf notIterableAtAll
  exact wpAny_bind (wpAny_specialOf hT PySem.F.slot_range_iter.lookup (wpAny_pure ⟨rfl, z⟩))
theorem pa_starR {e : Expr} {p : Pos} {es : List Expr} {te : L2.St → Hp → (Int → Int → Hp → Prop) → Prop} {t : TA} (hc : X.calm = true) (he : PRg X e te) (hr : PA X es t) :
    PA X (.Starred e p :: es) (fun σ H Q => te σ H fun a b H1 => RgOk a b ∧ t σ H1 fun ys H2 => Q (rgV a b ++ ys) H2) := by
  refine ⟨fun pos pins s σ H Q I h => ?_⟩
  refine PySem.W.items_star (thn (he pins s σ H _ I h) fun v s1 ⟨r, a, b, t1, u1, v1, H1, ev, hrg, I1, ok, q⟩ => ?_) rfl
  subst ev
  refine star_rg hc I1 hrg ok fun us s2 I2 rv => ?_
  exact thn (hr.run pos pins s2 σ H1 _ I2 q) fun ws s3 ⟨vs, H3, I3, r3, q3⟩ => ⟨rgV a b ++ vs, H3, I3, rv.append r3, q3⟩
theorem k_aNil : IA CX [] := fun {c X F es} T h => by
  unfold chkAs at h
  split at h
  · exact l_nil
  · cases h
theorem k_aOne {e : E} {r : List A} (I : IE CX e) (Ir : IA CX r) : IA CX (.one e :: r) := fun {c X F es} T h => by
  unfold chkAs at h
  split at h
  · rw [Bool.and_eq_true] at h
    obtain ⟨h1, h2⟩ := h
    unfold chkA at h1
    rw [Bool.and_eq_true] at h1
    exact l_cons (I T h1.2).e (Ir T h2) (star_plain h1.1)
  · cases h
theorem k_aVal {e : E} {r : List A} (I : IE CX e) (Ir : IA CX r) : IA CX (.star (.val e) :: r) := fun {c X F es} T h => by
  unfold chkAs at h
  split at h
  · rw [Bool.and_eq_true] at h
    obtain ⟨h1, h2⟩ := h
    unfold chkA at h1
    split at h1
    · rw [Bool.and_eq_true] at h1
      have h3 := h1.1
      unfold chkI at h3
      refine (StX.pa_star (I T h3).e (Ir T h2)).imp fun σ H Q q => ?_
      obtain ⟨μ, M, ρ, A, q⟩ := q
      have q : Ok ((iVal (denE e) F.c ρ M).bind fun it M1 => opt (starOf M1 it) Res.no fun xs => (denSt r F.c ρ M1).bind fun vs M2 => .ok (app xs vs) M2) (F.Gl H μ M Q) (F.Ge H μ M σ) := q
      refine ⟨μ, M, ρ, A, (Ok.bind.mp (Ok.bind.mp q)).mono (fun v M1 q V H1 μ1 x1 m1 r1 => ?_) fun _ _ _ q => q⟩
      have seq : ∀ {xs : List PV} {vs : List L2.V}, RVs F.K H1 μ1 xs vs → Ok ((denSt r F.c ρ M1).bind fun vs M2 => .ok (app xs vs) M2) (F.Gl H μ M Q) (F.Ge H μ M σ) → tL F (denSt r) σ H1 fun ys H2 => Q (vs ++ ys) H2 := fun {xs vs} rx q => by
        refine ⟨μ1, M1, ρ, A.go x1 m1, (Ok.bind.mp q).mono (fun ws M2 q W H2 μ2 x2 m2 r2 => ?_) fun _ _ _ q => q.step x1⟩
        have q : F.Gl H μ M Q (app xs ws) M2 := q
        rw [app_eq] at q
        exact q _ H2 μ2 (x1.trans x2) m2 ((rx.ext x2).append r2)
      cases r1 with
      | @tup f a xs vs s l => exact ⟨a, vs, rfl, .inl (T.K ▸ s.sq), seq l q⟩
      | @ref i a ha =>
        obtain ⟨xs, e1, q⟩ := opt_ok (show Ok (opt (lstAt M1 i) Res.no fun xs => Res.ok (It.val (.ref i)) M1) _ _ from q)
        obtain ⟨ys, e2, q⟩ := opt_ok (show Ok (opt (lstAt M1 i) Res.no fun xs => (denSt r F.c ρ M1).bind fun vs M2 => .ok (app xs vs) M2) (F.Gl H μ M Q) (F.Ge H μ M σ) from q)
        obtain ⟨vs, h5, h6⟩ := lstAt_sq m1 ha e2
        exact ⟨a, vs, rfl, .inr (T.K ▸ h5), seq h6 q⟩
      | str s => exact q.elim
      | _ => exact q.elim
    · cases h1
  · cases h
theorem rg_seq {r : List A} {σ : L2.St} {H H1 : Hp} {μ μ1 : List Addr} {M M1 : Mem} {ρ : Rho} {Q : List V → Hp → Prop} {i j : Int} (hk : rngOk i j = true) (A : F.At σ H μ M ρ) (x1 : F.Ext H μ M H1 μ1 M1) (m1 : F.RM H1 μ1 M1)
    (hl : (j - i).toNat ≤ sizeLine) (q : Ok ((denSt r F.c ρ M1).bind fun vs M2 => .ok (app (iota (j - i).toNat i) vs) M2) (F.Gl H μ M Q) (F.Ge H μ M σ)) : RgOk i j ∧ tL F (denSt r) σ H1 fun ys H2 => Q (rgV i j ++ ys) H2 := by
  obtain ⟨b1, b2, b3, b4⟩ := rngOk_iff hk
  refine ⟨⟨b1, b2, b3, b4, by have := sizeLine_eq; omega⟩, μ1, M1, ρ, A.go x1 m1, (Ok.bind.mp q).mono (fun ws M2 q W H2 μ2 x2 m2 r2 => ?_) fun _ _ _ q => q.step x1⟩
  have q : F.Gl H μ M Q (app (iota (j - i).toNat i) ws) M2 := q
  rw [app_eq] at q
  exact q _ H2 μ2 (x1.trans x2) m2 ((iota_rg i j).append r2)
theorem k_aRng2 {a b : E} {r : List A} (Ia : IE CX a) (Ib : IE CX b) (Ir : IA CX r) : IA CX (.star (.rng2 a b) :: r) := fun {c X F es} T h => by
  unfold chkAs at h
  split at h
  · rw [Bool.and_eq_true] at h
    obtain ⟨h1, h2⟩ := h
    unfold chkA at h1
    split at h1
    · rw [Bool.and_eq_true] at h1
      have h4 := h1.1
      unfold chkI at h4
      split at h4
      · next nm p y z pos =>
        simp only [Bool.and_eq_true, beq_iff_eq] at h4
        obtain ⟨⟨⟨⟨⟨⟨g1, g2⟩, g3⟩, g4⟩, g5⟩, g6⟩, g7⟩ := h4
        subst g1
        refine (pa_starR T.calm (prg_2 (T.gl g2) (T.mg g3) (Ia T g6).e (Ib T g7).e (star_plain g4) (star_plain g5) (stars_any (by rw [List.all_cons, g5]; rfl))) (Ir T h2)).imp fun σ H Q q => ?_
        obtain ⟨μ, M, ρ, A, q⟩ := q
        have q : Ok (((denE a F.c ρ M).bind fun v M1 => (denE b F.c ρ M1).bind fun w M2 => v.onI Res.no fun i => w.onI Res.no fun j => yes (rngOk i j) (Res.ok (It.rng i (Int.sub j i).toNat) M2) Res.no).bind fun it M1 => opt (starOf M1 it) Res.no fun xs => (denSt r F.c ρ M1).bind fun vs M2 => .ok (app xs vs) M2) (F.Gl H μ M Q) (F.Ge H μ M σ) := q
        refine ⟨μ, M, ρ, A, (Ok.bind.mp (Ok.bind.mp q)).mono (fun v M1 q V H1 μ1 x1 m1 r1 => ?_) fun _ _ _ q => q⟩
        refine ⟨μ1, M1, ρ, A.go x1 m1, (Ok.bind.mp q).mono (fun w M2 q W H2 μ2 x2 m2 r2 => ?_) fun _ _ _ q => q.step x1⟩
        obtain ⟨i, rfl, rfl, q⟩ := onI_ok r1 q
        obtain ⟨j, rfl, rfl, q⟩ := onI_ok r2 q
        obtain ⟨hk, q⟩ := yes_ok q
        obtain ⟨xs, e1, q⟩ := opt_ok (show Ok (opt (yes (lenOk (Int.sub j i).toNat) (some (iota (Int.sub j i).toNat i)) none) Res.no fun xs => (denSt r F.c ρ M2).bind fun vs M3 => .ok (app xs vs) M3) (F.Gl H μ M Q) (F.Ge H μ M σ) from q)
        obtain ⟨hl, rfl⟩ := yes_some e1
        exact ⟨i, j, rfl, rfl, rg_seq hk A (x1.trans x2) m2 (natBle.mp hl) q⟩
      · cases h4
    · cases h1
  · cases h
theorem k_aRng1 {a : E} {r : List A} (Ia : IE CX a) (Ir : IA CX r) : IA CX (.star (.rng1 a) :: r) := fun {c X F es} T h => by
  unfold chkAs at h
  split at h
  · rw [Bool.and_eq_true] at h
    obtain ⟨h1, h2⟩ := h
    unfold chkA at h1
    split at h1
    · rw [Bool.and_eq_true] at h1
      have h4 := h1.1
      unfold chkI at h4
      split at h4
      · next nm p y pos =>
        simp only [Bool.and_eq_true, beq_iff_eq] at h4
        obtain ⟨⟨⟨⟨g1, g2⟩, g3⟩, g4⟩, g5⟩ := h4
        subst g1
        refine (pa_starR T.calm (prg_1 (T.gl g2) (T.mg g3) (Ia T g5).e (star_plain g4)) (Ir T h2)).imp fun σ H Q q => ?_
        obtain ⟨μ, M, ρ, A, q⟩ := q
        have q : Ok (((denE a F.c ρ M).bind fun v M1 => v.onI Res.no fun j => yes (rngOk (.ofNat 0) j) (Res.ok (It.rng (.ofNat 0) j.toNat) M1) Res.no).bind fun it M1 => opt (starOf M1 it) Res.no fun xs => (denSt r F.c ρ M1).bind fun vs M2 => .ok (app xs vs) M2) (F.Gl H μ M Q) (F.Ge H μ M σ) := q
        refine ⟨μ, M, ρ, A, (Ok.bind.mp (Ok.bind.mp q)).mono (fun v M1 q V H1 μ1 x1 m1 r1 => ?_) fun _ _ _ q => q⟩
        obtain ⟨j, rfl, rfl, q⟩ := onI_ok r1 q
        obtain ⟨hk, q⟩ := yes_ok q
        obtain ⟨xs, e1, q⟩ := opt_ok (show Ok (opt (yes (lenOk j.toNat) (some (iota j.toNat (.ofNat 0))) none) Res.no fun xs => (denSt r F.c ρ M1).bind fun vs M3 => .ok (app xs vs) M3) (F.Gl H μ M Q) (F.Ge H μ M σ) from q)
        obtain ⟨hl, rfl⟩ := yes_some e1
        have e0 : (j - 0).toNat = j.toNat := by rw [Int.sub_zero]
        exact ⟨j, rfl, rg_seq (i := 0) hk A x1 m1 (by rw [e0]; exact natBle.mp hl) (by rw [e0]; exact q)⟩
      · cases h4
    · cases h1
  · cases h
theorem k_aBad {i : I} {r : List A} (n : ∀ x, i ≠ .val x) (o : ∀ x, i ≠ .rng1 x) (m : ∀ x y, i ≠ .rng2 x y) : IA CX (.star i :: r) := fun {c X F es} T h => by
  unfold chkAs at h
  split at h
  · rw [Bool.and_eq_true] at h
    obtain ⟨h1, h2⟩ := h
    unfold chkA at h1
    split at h1
    · rw [Bool.and_eq_true] at h1
      cases i with
      | val x => exact absurd rfl (n x)
      | rng1 x => exact absurd rfl (o x)
      | rng2 x y => exact absurd rfl (m x y)
      | _ => exact absurd h1.2 (fun z => by cases z)
    · cases h1
  · cases h
theorem k_tupS {l : List A} (I : IA CX l) : IE CX (.tupS l) := fun {c X F e} T h => by
  unfold chkE at h
  split at h
  · refine .of T.K ((pe_tup (I T h)).imp fun σ H Q q => ?_) (fun _ => rfl) fun _ _ _ z => by cases z
    obtain ⟨μ, M, ρ, A, q⟩ := q
    refine ⟨μ, M, ρ, A, (Ok.bind.mp q).mono (fun vs M1 q V H1 μ1 x1 m1 r1 => ?_) fun _ _ _ q => q⟩
    obtain ⟨hz, q⟩ := yes_ok (show Ok (yes (lenOk (len vs)) (Res.ok (PV.tup false vs) M1) Res.no) _ _ from q)
    refine ⟨?_, fun p hp => ?_⟩
    · rw [← r1.length, ← len_eq]; exact natBle.mp hz
    · have k := keepNew (o := .tup V) hp
      have x2 : F.Ext H1 μ1 M1 (upd H1 p (.tup V)) μ1 M1 := Ext.same k
      exact q _ _ μ1 (x1.trans x2) (m1.same k) (.tup upd_same (r1.ext x2))
  · cases h
theorem k_rev {a : E} : IE CX (.rev a) := fun {c X F e} T h => by unfold chkE at h; cases h
theorem k_rgval {t : Bool} {a : E} : IE CX (.rngT t (.val a)) := fun {c X F e} T h => (k_rngX h (fun _ z => by cases z) fun _ _ z => by cases z).elim
theorem k_rgenum {t : Bool} {a : E} : IE CX (.rngT t (.enum a)) := fun {c X F e} T h => (k_rngX h (fun _ z => by cases z) fun _ _ z => by cases z).elim
theorem k_rgzip {t : Bool} {a b : E} : IE CX (.rngT t (.zip a b)) := fun {c X F e} T h => (k_rngX h (fun _ z => by cases z) fun _ _ z => by cases z).elim
end
/-! ### all of them -/
section
variable (CX : CXT)
mutual
theorem okE : ∀ x : E, IE CX x
  | .var i => k_var
  | .int i => k_int
  | .bl k => k_bl
  | .non => k_non
  | .str s => k_str
  | .con v => k_con
  | .gfn g => k_gfn
  | .tup f es => k_tup (okL es)
  | .tupS es => k_tupS (okAs es)
  | .lst es => k_lst (okL es)
  | .dnew t => k_dnew
  | .dct t ps => k_dct (okD ps)
  | .bin op a b => k_bin (okE a) (okE b)
  | .neg a => k_neg (okE a)
  | .not a => k_not (okE a)
  | .and a b => k_and (okE a) (okE b)
  | .or a b => k_or (okE a) (okE b)
  | .cmp op a b => k_cmp (okE a) (okE b)
  | .cmpR ne a b => k_cmpR (okE a) (okE b)
  | .chain op op' a b d => k_chain (okE a) (okE b) (okE d)
  | .ite t a b => k_ite (okE t) (okE a) (okE b)
  | .idx a b => k_idx (okE a) (okE b)
  | .cut a lo hi => k_cut (okE a) (okO lo) (okO hi)
  | .rev a => k_rev
  | .comp elt g it ifs own => k_comp (okE elt) (okG g) (okI it) (okB ifs)
  | .dcomp t k v g it ifs own => k_dcomp (okE k) (okE v) (okG g) (okI it) (okB ifs)
  | .rngT t (.rng1 a) => k_rng1 (okE a)
  | .rngT t (.rng2 a b) => k_rng2 (okE a) (okE b)
  | .rngT t (.val a) => k_rgval
  | .rngT t (.enum a) => k_rgenum
  | .rngT t (.zip a b) => k_rgzip
  | .call g es => k_call (okL es)
  | .bi b es => k_bi (okL es)
  | .me m o es => k_me (okE o) (okL es)
  | .never => k_never
theorem okL : ∀ l : List E, IL CX l
  | [] => k_nil
  | e :: r => k_cons (okE e) (okL r)
theorem okAs : ∀ l : List A, IA CX l
  | [] => k_aNil
  | .one e :: r => k_aOne (okE e) (okAs r)
  | .star (.val e) :: r => k_aVal (okE e) (okAs r)
  | .star (.rng2 a b) :: r => k_aRng2 (okE a) (okE b) (okAs r)
  | .star (.rng1 a) :: r => k_aRng1 (okE a) (okAs r)
  | .star (.enum a) :: r => k_aBad (fun _ z => by cases z) (fun _ z => by cases z) fun _ _ z => by cases z
  | .star (.zip a b) :: r => k_aBad (fun _ z => by cases z) (fun _ z => by cases z) fun _ _ z => by cases z
theorem okD : ∀ l : List D, ID CX l
  | [] => k_dnil
  | .kv k v :: r => k_dcons (okE k) (okE v) (okD r)
theorem okO : ∀ o : Option E, IO CX o
  | none => k_oNone
  | some x => k_oSome (okE x)
theorem okB : ∀ o : Option E, IB CX o
  | none => k_bNone
  | some x => k_bSome (okE x)
theorem okI : ∀ i : I, II CX i
  | .val x => k_iVal (okE x)
  | .rng1 x => k_iRng1 (okE x)
  | .rng2 x y => k_iRng2 (okE x) (okE y)
  | .enum x => k_iEnum (okE x)
  | .zip x y => k_iZip (okE x) (okE y)
theorem okG : ∀ g : G, IG CX g
  | .name i => k_gName
  | .tup gs => k_gTup (okGl gs)
  | .sub o i => k_gSub (okE o) (okE i)
theorem okGl : ∀ g : List G, IGl CX g
  | [] => k_gNil
  | g :: r => k_gCons (okG g) (okGl r)
end
end
end Ev

set_option Elab.async false
set_option linter.all false
set_option maxRecDepth 100000
set_option maxHeartbeats 1000000
/-! Sl1: the check of statements, and that it is sound. -/
namespace Ev
open PySem PySem.Spec PyProof.Rows L2
/-- does a comprehension's value go to a name by the short way? -/
def compScope : Expr → Option (Scope × Nat)
  | .ListComp _ _ s p => some (s, p.line)
  | .SetComp _ _ s p => some (s, p.line)
  | .DictComp _ _ _ s p => some (s, p.line)
  | _ => none
def Cc.sw (c : Cc) (v : Expr) (x : Str) (p : Pos) : Bool := match compScope v with
  | none => false
  | some (s, l) => c.sc.names.lookup x == some .local && p.line == l && !(s.names.any fun (n, k) => n == x && (k == .local || k == .cell))
def starred : Expr → Bool | .Starred .. => true | _ => false
/-- how a, b = x, y stores: none where the model does not tell -/
def Cc.swT (c : Cc) (ts vs : List Expr) : Option (Option (List Str)) :=
  if !(ts.length == 2 || ts.length == 3) || vs.length != ts.length then some none
  else if vs.any starred then some none
  else
    let line := (ts.head?.map (·.pos.line)).getD 0
    let names := ts.filterMap fun
      | .Name id pos => if c.sc.names.lookup id == some .local && pos.line == line then some id else none
      | _ => none
    if names.length != ts.length || names.eraseDups.length != names.length then some none
    else if vs.all (foldedForSure 8) then some none
    else if vs.all (constantsAlone 8) then none
    else some (some names)
def fnK (c : Cc) : Bool := match c.sc.kind with | .function => true | _ => false
section
variable {CX : CXT} {c : Cc} {X : Cx} {F : Fr} {e : Expr}
theorem Fit.blockKind (T : Fit CX c X F) (h : fnK c = true) : X.env.blockKind = .function := by
  unfold Env.blockKind
  rw [T.sc]
  unfold fnK at h
  split at h
  · next e => rw [e]; rfl
  · cases h
theorem Fit.kindOf (T : Fit CX c X F) (x : Str) : X.env.kindOf x = c.sc.names.lookup x := by
  unfold Env.kindOf
  rw [T.sc]
theorem sw_ok (T : Fit CX c X F) (hk : fnK c = true) {v : Expr} {x : Str} {p : Pos} {l : Nat} : swapsWith v (some (.Name x p)) l X.env = pure (c.sw v x p) := by
  unfold swapsWith Cc.sw compScope
  rw [T.blockKind hk]
  have hq := T.kindOf x
  cases v <;> first | rfl | (dsimp only; rw [hq]; rfl)
theorem sw_other {v t : Expr} {l : Nat} {env : Env} (h : ∀ x p, t ≠ .Name x p) : swapsWith v (some t) l env = pure false := by
  unfold swapsWith
  cases v <;> first | rfl | (cases t <;> first | rfl | exact absurd rfl (h _ _))
theorem sw_sole {v t : Expr} {l : Nat} {env : Env} (h : ∀ x p, t ≠ .Name x p) : swapsWithSole [t] v l env = pure false := sw_other h
theorem sw_none {v : Expr} {l : Nat} {env : Env} (h : (compScope v).isNone = true) : swapsWith v none l env = pure false := by
  unfold swapsWith
  cases v <;> first | rfl | cases h
def nmsOf (sc : Scope) (ts : List Expr) : List Str := ts.filterMap fun
  | .Name id pos => if sc.names.lookup id == some .local && pos.line == (ts.head?.map (·.pos.line)).getD 0 then some id else none
  | _ => none
theorem swT_ok (T : Fit CX c X F) (hk : fnK c = true) {ts vs : List Expr} {k k' p p'} {r : Option (List Str)} (h : c.swT ts vs = some r) : swappedStores [.Tuple ts k p] (.Tuple vs k' p') X.env = pure r := by
  have hb := T.blockKind hk
  have e1 : swappedStores [.Tuple ts k p] (.Tuple vs k' p') X.env = (if (!(ts.length == 2 || ts.length == 3) || vs.length != ts.length || X.env.blockKind != .function) = true then pure none else if (vs.any starred) = true then pure none
    else if ((nmsOf X.env.scope ts).length != ts.length || (nmsOf X.env.scope ts).eraseDups.length != (nmsOf X.env.scope ts).length) = true then pure none else if (vs.all (foldedForSure 8)) = true then pure none
    else if (vs.all (constantsAlone 8)) = true then (do unsupported "assign.tuple-of-constant-expressions:order-of-the-stores"; pure (some (nmsOf X.env.scope ts))) else pure (some (nmsOf X.env.scope ts))) := rfl
  have e2 : c.swT ts vs = (if (!(ts.length == 2 || ts.length == 3) || vs.length != ts.length) = true then some none else if (vs.any starred) = true then some none
    else if ((nmsOf c.sc ts).length != ts.length || (nmsOf c.sc ts).eraseDups.length != (nmsOf c.sc ts).length) = true then some none else if (vs.all (foldedForSure 8)) = true then some none
    else if (vs.all (constantsAlone 8)) = true then none else some (some (nmsOf c.sc ts))) := rfl
  rw [e2] at h
  rw [e1, hb, T.sc]
  generalize nmsOf c.sc ts = nm at h ⊢
  have e3 : (!(ts.length == 2 || ts.length == 3) || vs.length != ts.length || ScopeKind.function != ScopeKind.function) = (!(ts.length == 2 || ts.length == 3) || vs.length != ts.length) := by
    show (_ || false) = _
    rw [Bool.or_false]
  rw [e3]
  repeat' split at h
  all_goals first | (cases h; done) | (cases h; simp_all only [if_true, if_false]; try rfl)
end
def Cc.isL (c : Cc) (x : Str) : Bool := c.sc.names.lookup x == some .local
def chkN (c : Cc) (x : Str) (i : Nat) : Bool := (c.N[i]? == some x) && c.loc x && (c.fnb x || c.isL x)
def chkLN (c : Cc) (x : Str) (i : Nat) : Bool := (c.N[i]? == some x) && c.isL x
def isLc : Expr → E → Bool | .ListComp .., .comp .. => true | _, _ => false
def chkPar (c : Cc) (ts vs : List Expr) (nm : List Str) : G → E → Bool
  | .tup [.name i, .name j], .tup _ es => (match ts, vs with
    | [.Name x _, .Name y _], [a, b] => decide (nm = [x, y]) && chkLN c x i && chkLN c y j && !(i == j) && chkL c [a, b] es
    | _, _ => false)
  | .tup [.name i, .name j, .name k], .tup _ es => (match ts, vs with
    | [.Name x _, .Name y _, .Name z _], [a, b, d] => decide (nm = [x, y, z]) && chkLN c x i && chkLN c y j && chkLN c z k && !(i == j) && !(i == k) && !(j == k) && chkL c [a, b, d] es
    | _, _ => false)
  | _, _ => false
def chkSet (c : Cc) (tg v : Expr) (g : G) (e : E) : Bool := match tg with
  | .Name x p => (match g with
    | .name i => chkN c x i && chkE c v e && (!(c.sw v x p) || (isLc v e && c.isL x))
    | _ => false)
  | .Tuple ts _ _ => (match v with
    | .Tuple vs _ _ => (match c.swT ts vs with
      | none => false
      | some none => chkE c v e && chkG c tg g
      | some (some nm) => chkPar c ts vs nm g e)
    | _ => chkE c v e && chkG c tg g)
  | _ => false
def opAS : Ev.Op → Operator → Bool | .add, .Add => true | .sub, .Sub => true | _, _ => false
mutual
def chkS (c : Cc) (st : Stmt) : S → Bool
  | .set g e => match st with | .Assign [tg] v _ => chkSet c tg v g e | _ => false
  | .put o i e => match st with | .Assign [.Subscript x y _] v _ => chkE c v e && chkE c x o && chkE c y i && noCut y | _ => false
  | .aug i op e => match st with | .AugAssign (.Name x _) o v _ => opAS op o && chkN c x i && chkE c v e | _ => false
  | .ret e => match st with | .Return (some v) _ => chkE c v e | _ => false
  | .retN => match st with | .Return none _ => true | _ => false
  | .iff t x y => match st with | .If w a b _ => chkE c w t && chkSs c a x && chkSs c b y | _ => false
  | .forr g it b => match st with | .For tg iter body [] _ => noSet iter && chkI c tg iter it && chkG c tg g && chkSs c body b | _ => false
  | .whl t b => match st with | .While w body [] _ => chkE c w t && chkSs c body b | _ => false
  | .expr e => match st with | .Expr v _ => (compScope v).isNone && chkE c v e | _ => false
  | .pass => match st with | .Pass _ => true | _ => false
  | .never => true
def chkSs (c : Cc) (l : List Stmt) : List S → Bool
  | [] => match l with | [] => true | _ => false
  | s :: r => match l with | x :: l' => chkS c x s && chkSs c l' r | _ => false
end
section
variable {CX : CXT} {c : Cc} {X : Cx} {F : Fr} {e : Expr}
def IS (CX : CXT) (s : S) : Prop := ∀ {c : Cc} {X : Cx} {F : Fr} {st : Stmt}, Fit CX c X F → fnK c = true → PassesOwn (model X.prog X.w) X.A X.env X.xe → chkS c st s = true → PS X st (tS F (denS s))
def ISs (CX : CXT) (s : List S) : Prop := ∀ {c : Cc} {X : Cx} {F : Fr} {st : List Stmt}, Fit CX c X F → fnK c = true → PassesOwn (model X.prog X.w) X.A X.env X.xe → chkSs c st s = true → PSs X st (tS F (denSs s))
theorem Fit.isL (T : Fit CX c X F) {x : Str} (h : c.isL x = true) : X.env.scope.names.lookup x = some .local := by rw [T.sc]; exact beq_iff_eq.mp h
theorem Fit.place (T : Fit CX c X F) {x : Str} {i : Nat} (h : chkN c x i = true) : X.N[i]? = some x ∧ Loc X.env.scope x ∧ (X.fn x = true ∨ X.env.scope.names.lookup x = some .local) := by
  unfold chkN at h
  simp only [Bool.and_eq_true, Bool.or_eq_true, beq_iff_eq] at h
  exact ⟨by rw [T.N]; exact h.1.1, T.loc h.1.2, h.2.imp (T.fn _) T.isL⟩
theorem Fit.placeL (T : Fit CX c X F) {x : Str} {i : Nat} (h : chkLN c x i = true) : X.N[i]? = some x ∧ X.env.scope.names.lookup x = some .local := by
  unfold chkLN at h
  simp only [Bool.and_eq_true, beq_iff_eq] at h
  exact ⟨by rw [T.N]; exact h.1, T.isL h.2⟩
theorem k_set {g : G} {e : E} : IS CX (.set g e) := fun {c X F st} T hk hp h => by
  unfold chkS at h
  split at h
  · next tg v pos =>
    unfold chkSet at h
    split at h
    · next x p =>
      split at h
      · next i =>
        simp only [Bool.and_eq_true, Bool.or_eq_true, Bool.not_eq_true'] at h
        obtain ⟨⟨h1, h2⟩, h3⟩ := h
        obtain ⟨p1, p2, p3⟩ := T.place h1
        rcases h3 with h3 | ⟨h3, h4⟩
        · exact s_set1 T.nd p1 p2 (okE CX e T h2).e (by rw [sw_ok T hk, h3]) p3
        · cases hs : c.sw v x p with
          | false => exact s_set1 T.nd p1 p2 (okE CX e T h2).e (by rw [sw_ok T hk, hs]) p3
          | true =>
            unfold isLc at h3
            split at h3
            · next elt gens scp pz ee gg it ifs own =>
              unfold chkE at h2
              split at h2
              · next x0 tg0 iter0 fs0 sc0 pos0 hz =>
                injection hz with z1 z2 z3 z4
                subst z1 z2 z3 z4
                simp only [Bool.and_eq_true] at h2
                obtain ⟨⟨⟨⟨⟨⟨h1', h2'⟩, h3'⟩, h4'⟩, h5⟩, h6⟩, h7⟩ := h2
                have hn : (c.own own).map (·.2) = own := by
                  unfold Cc.own
                  rw [List.map_map]
                  exact List.map_id own
                have hs' : ∀ j ∈ gIx gg, j ∈ (c.own own).map (·.2) := fun j hj => by
                  rw [hn]
                  exact List.contains_iff_mem.mp (List.all_eq_true.mp h2' j hj)
                have q := s_setLc (F := F) (py := p) (pos := pz) (spos := pos) (k := denB ifs) T.calm T.nd p1 (T.isL h4) (by rw [sw_ok T hk, hs]) (okI CX it T h4') (by rw [T.N, T.sc]; exact blkOk_by h1') hs' (fun s H C cl fp => okG CX gg (T.blk s H _ cl C fp) h5) (fun s H C cl fp => okB CX ifs (T.blk s H _ cl C fp) h6) (fun s H C cl fp => (okE CX ee (T.blk s H _ cl C fp) h7).e) (set_plain h3')
                rw [hn] at q
                exact q
              · cases h2
            · cases h3
      · cases h
    · next ts k p =>
      have gen : chkE c v e = true → chkG c (.Tuple ts k p) g = true → swappedStores [.Tuple ts k p] v X.env = pure none → PS X (.Assign [.Tuple ts k p] v pos) (tS F (denS (.set g e))) := fun g1 g2 g3 =>
        s_set (okE CX e T g1).e (okG CX g T g2) (sw_sole fun _ _ z => by cases z) g3 rfl
      split at h
      · next vs k' p' =>
        split at h
        · cases h
        · next hw =>
          rw [Bool.and_eq_true] at h
          exact gen h.1 h.2 (swT_ok T hk hw)
        · next nm hw =>
          have sw := swT_ok (k := k) (k' := k') (p := p) (p' := p') T hk hw
          unfold chkPar at h
          split at h
          · next i j f es =>
            split at h
            · next x px y py a b =>
              simp only [Bool.and_eq_true, Bool.not_eq_true', decide_eq_true_eq] at h
              obtain ⟨⟨⟨⟨h1, h2⟩, h3⟩, h4⟩, h5⟩ := h
              subst h1
              obtain ⟨a1, a2⟩ := T.placeL h2
              obtain ⟨b1, b2⟩ := T.placeL h3
              have ne : i ≠ j := fun z => by subst z; simp at h4
              exact s_par T.calm T.nd a1 b1 ne a2 b2 (okL CX es T h5).1 sw (sw_sole fun _ _ z => by cases z)
            · cases h
          · next i j l f es =>
            split at h
            · next x px y py z pz a b d =>
              simp only [Bool.and_eq_true, Bool.not_eq_true', decide_eq_true_eq] at h
              obtain ⟨⟨⟨⟨⟨⟨⟨h1, h2⟩, h3⟩, h3'⟩, h4⟩, h4'⟩, h4''⟩, h5⟩ := h
              subst h1
              obtain ⟨a1, a2⟩ := T.placeL h2
              obtain ⟨b1, b2⟩ := T.placeL h3
              obtain ⟨d1, d2⟩ := T.placeL h3'
              exact s_par3 T.calm T.nd a1 b1 d1 (fun z => by subst z; simp at h4) (fun z => by subst z; simp at h4') (fun z => by subst z; simp at h4'') a2 b2 d2 (okL CX es T h5).1 sw (sw_sole fun _ _ z => by cases z)
            · cases h
          · cases h
      · next hv =>
        rw [Bool.and_eq_true] at h
        refine gen h.1 h.2 ?_
        cases v <;> first | rfl | exact absurd rfl (hv _ _ _)
    · cases h
  · cases h
theorem k_put {o i e : E} : IS CX (.put o i e) := fun {c X F st} T hk hp h => by
  unfold chkS at h
  split at h
  · next x y p v pos =>
    simp only [Bool.and_eq_true] at h
    obtain ⟨⟨⟨h1, h2⟩, h3⟩, h4⟩ := h
    have u := T.un
    exact s_put (by omega) (okE CX e T h1).e (okE CX o T h2).e (okE CX i T h3).e (fun v => by cases y <;> first | rfl | (cases h4; done)) (sw_sole fun _ _ z => by cases z) rfl rfl
  · cases h
theorem k_aug {i : Nat} {op : Ev.Op} {e : E} : IS CX (.aug i op e) := fun {c X F st} T hk hp h => by
  unfold chkS at h
  split at h
  · next x p o v pos =>
    simp only [Bool.and_eq_true] at h
    obtain ⟨⟨h1, h2⟩, h3⟩ := h
    obtain ⟨p1, p2, p3⟩ := T.place h2
    have ho : (o = .Add ∧ op = .add) ∨ (o = .Sub ∧ op = .sub) := by
      cases op <;> cases o <;> first | (cases h1; done) | exact .inl ⟨rfl, rfl⟩ | exact .inr ⟨rfl, rfl⟩
    exact s_aug ho T.nd p1 p2 (okE CX e T h3).e p3
  · cases h
theorem k_ret {e : E} : IS CX (.ret e) := fun {c X F st} T hk hp h => by
  unfold chkS at h
  split at h
  · exact s_ret (okE CX e T h).e
  · cases h
theorem k_retN : IS CX .retN := fun {c X F st} T hk hp h => by
  unfold chkS at h
  split at h
  · exact s_retN
  · cases h
theorem k_pass : IS CX .pass := fun {c X F st} T hk hp h => by
  unfold chkS at h
  split at h
  · exact s_pass
  · cases h
theorem k_sNever : IS CX .never := fun {c X F st} T hk hp h => s_never
theorem k_expr {e : E} : IS CX (.expr e) := fun {c X F st} T hk hp h => by
  unfold chkS at h
  split at h
  · rw [Bool.and_eq_true] at h
    exact s_expr (okE CX e T h.2).e (sw_none h.1)
  · cases h
theorem k_iff {t : E} {x y : List S} (Ix : ISs CX x) (Iy : ISs CX y) : IS CX (.iff t x y) := fun {c X F st} T hk hp h => by
  unfold chkS at h
  split at h
  · simp only [Bool.and_eq_true] at h
    obtain ⟨⟨h1, h2⟩, h3⟩ := h
    exact s_if (okE CX t T h1).t (Ix T hk hp h2) (Iy T hk hp h3)
  · cases h
theorem k_forr {g : G} {it : I} {b : List S} (Ib : ISs CX b) : IS CX (.forr g it b) := fun {c X F st} T hk hp h => by
  unfold chkS at h
  split at h
  · simp only [Bool.and_eq_true] at h
    obtain ⟨⟨⟨h1, h2⟩, h3⟩, h4⟩ := h
    exact s_for hp T.calm (okI CX it T h2) (okG CX g T h3) (Ib T hk hp h4) (set_plain h1)
  · cases h
theorem k_whl {t : E} {b : List S} (Ib : ISs CX b) : IS CX (.whl t b) := fun {c X F st} T hk hp h => by
  unfold chkS at h
  split at h
  · simp only [Bool.and_eq_true] at h
    exact s_while hp (okE CX t T h.1).t (Ib T hk hp h.2)
  · cases h
theorem k_sNil : ISs CX [] := fun {c X F st} T hk hp h => by
  unfold chkSs at h
  split at h
  · exact ss_nil
  · cases h
theorem k_sCons {s : S} {r : List S} (I : IS CX s) (Ir : ISs CX r) : ISs CX (s :: r) := fun {c X F st} T hk hp h => by
  unfold chkSs at h
  split at h
  · rw [Bool.and_eq_true] at h
    exact ss_cons (I T hk hp h.1) (Ir T hk hp h.2)
  · cases h
end
section
variable (CX : CXT)
mutual
theorem okS : ∀ s : S, IS CX s
  | .set g e => k_set
  | .put o i e => k_put
  | .aug i op e => k_aug
  | .ret e => k_ret
  | .retN => k_retN
  | .iff t x y => k_iff (okSs x) (okSs y)
  | .forr g it b => k_forr (okSs b)
  | .whl t b => k_whl (okSs b)
  | .expr e => k_expr
  | .pass => k_pass
  | .never => k_sNever
theorem okSs : ∀ l : List S, ISs CX l
  | [] => k_sNil
  | s :: r => k_sCons (okS s) (okSs r)
end
end
end Ev

set_option Elab.async false
set_option linter.all false
set_option maxRecDepth 100000
set_option maxHeartbeats 1000000
/-! Sl2: functions by their data. -/
namespace Ev
open PySem PySem.Spec PyProof.Rows L2
theorem zip_lookup : ∀ {ps : List Str} {us : List Value}, ps.Nodup → us.length = ps.length → (ps.filterMap fun n => ((ps.zip us).lookup n).map (n, ·)) = ps.zip us := by
  intro ps us nd hl
  have key : ∀ (ps0 ps : List Str) (us0 us : List Value), (ps0 ++ ps).Nodup → us0.length = ps0.length → us.length = ps.length → (ps.filterMap fun n => (((ps0 ++ ps).zip (us0 ++ us)).lookup n).map (n, ·)) = ps.zip us := by
    intro ps0 ps
    induction ps generalizing ps0 with
    | nil => intro us0 us _ _ _; rfl
    | cons p r ih =>
      intro us0 us nd h0 h1
      cases us with
      | nil => cases h1
      | cons u t =>
        have e1 : ((ps0 ++ p :: r).zip (us0 ++ u :: t)).lookup p = some u := by
          have hp : p ∉ ps0 := fun hm => by
            rw [List.nodup_append] at nd
            exact nd.2.2 p hm p List.mem_cons_self rfl
          rw [List.zip_append h0.symm]
          have : ∀ {a : List Str} {b : List Value}, p ∉ a → ((a.zip b) ++ (p, u) :: r.zip t).lookup p = some u := by
            intro a
            induction a with
            | nil => intro b _; simp [List.lookup]
            | cons q a iha =>
              intro b hq
              cases b with
              | nil => simp [List.lookup]
              | cons w b =>
                have hne : (p == q) = false := by
                  apply beq_eq_false_iff_ne.mpr
                  exact fun z => hq (by subst z; exact List.mem_cons_self)
                show List.lookup p ((q, w) :: ((a.zip b) ++ (p, u) :: r.zip t)) = some u
                rw [List.lookup, hne]
                exact iha fun z => hq (List.mem_cons_of_mem _ z)
          exact this hp
        have ih' := ih (ps0 ++ [p]) (us0 ++ [u]) t (by rw [List.append_assoc]; exact nd) (by rw [List.length_append, List.length_append, h0]; rfl) (by simpa using h1)
        rw [List.append_assoc, List.append_assoc, List.singleton_append, List.singleton_append] at ih'
        rw [List.filterMap_cons, e1]
        show (p, u) :: _ = _
        rw [ih']
        rfl
  exact key [] ps [] us nd rfl hl
def plainPs (params : Arguments) (ps : List Str) : Bool := params.posonlyargs.isEmpty && decide (params.args.map (·.arg) = ps) && params.vararg.isNone && params.kwonlyargs.isEmpty && params.kwarg.isNone && decide ps.Nodup
theorem bind_plain {x qual : Str} {params : Arguments} {body : List Stmt} {scope : Scope} {kV doc pm : Value} {an : Option Addr} {cdv ct : Value} {us : List Value} {ps : List Str} (h : plainPs params ps = true) (hl : us.length = ps.length) :
    bindArgs (PySem.W.fnOf x qual params body scope .none kV doc pm an cdv ct) ⟨us, []⟩ = pure (ps.zip us) := by
  obtain ⟨po, ar, va, ko, kd, kw, df⟩ := params
  unfold plainPs at h
  simp only [Bool.and_eq_true, decide_eq_true_eq, List.isEmpty_iff, Option.isNone_iff_eq_none] at h
  obtain ⟨⟨⟨⟨⟨rfl, h2⟩, rfl⟩, rfl⟩, rfl⟩, nd⟩ := h
  subst h2
  have e0 : seqItems? Value.none = pure none := rfl
  have hz := zip_lookup nd hl
  have e1 : (List.filter (fun n => (List.lookup n ((ar.map (·.arg)).zip us)).isNone) (ar.map (·.arg))) = [] := by
    rw [List.filter_eq_nil_iff]
    intro n hn
    cases q : List.lookup n ((ar.map (·.arg)).zip us) with
    | some v => simp
    | none =>
      exfalso
      have hl' : ∀ {l : List Str} {m : List Value}, m.length = l.length → n ∈ l → List.lookup n (l.zip m) ≠ none := by
        intro l
        induction l with
        | nil => intro m _ h; cases h
        | cons a l ih =>
          intro m h hm
          cases m with
          | nil => cases h
          | cons b m =>
            show List.lookup n ((a, b) :: l.zip m) ≠ none
            rw [List.lookup]
            cases e : (n == a) with
            | true => simp
            | false =>
              have : n ≠ a := beq_eq_false_iff_ne.mp e
              exact ih (by simpa using h) ((List.mem_cons.mp hm).resolve_left this)
      exact hl' hl hn q
  have hl2 : us.length = ar.length := by simpa using hl
  have e2 : List.take ar.length (ar.map (·.arg)) = ar.map (·.arg) := List.take_of_length_le (by rw [List.length_map]; exact Nat.le_refl _)
  rw [List.filterMap_map] at hz
  unfold bindArgs
  dsimp only [PySem.W.fnOf]
  rw [e0]
  simp [pure_bind, hl2, e1, e2, hz]
/-! ### a program's functions -/
structure Ent where
  d : He.DefD
  N : List Str
  ps : List Str
  ir : List S
noncomputable def Ent.fn (e : Ent) : Fn := ⟨e.ps.length, e.N.length, denSs e.ir⟩
structure Pgm where
  es : List Ent
  fns : List (Str × Nat)
  fr : List Str
  cons : List (Str × PV)
def Pgm.cc (p : Pgm) (e : Ent) : Cc := { N := e.N, sc := e.d.scope, fns := p.fns, fr := p.fr, cons := p.cons, fnb := fun _ => true }
/-- what is checked of a function -/
def chkEnt (p : Pgm) (e : Ent) : Bool := (match e.d.scope.kind with | .function => true | _ => false) && !e.d.scope.isCoroutine && !e.d.scope.isGenerator && decide e.N.Nodup && decide (e.N.take e.ps.length = e.ps) &&
  (e.ps.all fun x => match e.d.scope.names.lookup x with | some .local => true | some .cell => true | _ => false) && (e.d.scope.names.all fun y => match y.2 with | .free => false | _ => true) && plainPs e.d.params e.ps && chkSs (p.cc e) e.d.body e.ir
theorem chk_scope {p : Pgm} {e : Ent} (h : chkEnt p e = true) : FnScope e.N e.ps e.d.scope ∧ plainPs e.d.params e.ps = true ∧ chkSs (p.cc e) e.d.body e.ir = true := by
  unfold chkEnt at h
  simp only [Bool.and_eq_true, decide_eq_true_eq, Bool.not_eq_true', List.all_eq_true] at h
  obtain ⟨⟨⟨⟨⟨⟨⟨⟨h1, h2⟩, h3⟩, h4⟩, h5⟩, h6⟩, h7⟩, h8⟩, h9⟩ := h
  refine ⟨⟨?_, h2, h3, h4, h5, fun x hx => ?_, fun y hy z => ?_⟩, h8, h9⟩
  · split at h1
    · assumption
    · cases h1
  · have := h6 x hx
    split at this
    · exact .inl (by assumption)
    · exact .inr (by assumption)
    · cases this
  · have := h7 y hy
    rw [z] at this
    cases this
/-- what stands behind the top -/
structure Stands (p : Pgm) (K : PySem.W.Frag) (mg : Str → Option Value) (fdOf : Nat → FuncData) : Prop where
  def_ : ∀ (g : Nat) (e : Ent), p.es[g]? = some e → FunD K e.d.name e.d.qual e.d.params e.d.body e.d.scope [] [] (He.fAd K e.d.at_) (fdOf g)
  glo : ∀ (x : Str) (g : Nat), p.fns.lookup x = some g → ∃ e, p.es[g]? = some e ∧ mg x = some (.ref (He.fAd K e.d.at_))
  free : ∀ x ∈ p.fr, mg x = none
  con : ∀ x v, p.cons.lookup x = some v → ∃ u w, mg x = some u ∧ RelV w u ∧ ∀ H μ, RV K H μ v w
theorem fnG_mono {P : Program} {w : World} {K : PySem.W.Frag} {mg : Str → Option Value} {base : Heap} {CX : CXT} {j k : Nat} {f : Addr} {fd : FuncData} {ps : List Str} {sp : L2.Sp} (h : j ≤ k) (G : FnG P w K mg base CX j f fd ps sp) : FnG P w K mg base CX k f fd ps sp :=
  ⟨G.ln, fun A out s H as us ws Q E hr => G.go A out s H as us ws Q E (hr.mono h)⟩
/-- a contract that promises no more -/
theorem fnG_weak {P : Program} {w : World} {K : PySem.W.Frag} {mg : Str → Option Value} {base : Heap} {CX : CXT} {k : Nat} {f : Addr} {fd : FuncData} {ps : List Str} {sp sp' : L2.Sp} (G : FnG P w K mg base CX k f fd ps sp) (h : ∀ ws H Q E, sp' ws H Q E → sp ws H Q E) : FnG P w K mg base CX k f fd ps sp' :=
  ⟨fun ws H Q E q => G.ln ws H Q E (h ws H Q E q), fun A out s H as us ws Q E hr hg e0 hb r q => G.go A out s H as us ws Q E hr hg e0 hb r (h ws H Q E q)⟩
/-- one function, those that it calls kept by contracts -/
theorem okFn1 {P : Program} {w : World} {K : PySem.W.Frag} {mg : Str → Option Value} {base : Heap} {p : Pgm} {RX : Hp → List Addr → Nat → List PV → Value → Option Addr → Prop} {fdOf : Nat → FuncData} {cf : Nat → List PV → Mem → Res PV} {k : Nat}
    (hR : ∀ H μ n j zs cls d, RX H μ j zs cls d → RX H (μ.take n) j zs cls d) (hc : ∀ (g : Nat) (e : Ent), p.es[g]? = some e → chkEnt p e = true) (st : Stands p K mg fdOf)
    (ih : ∀ (g : Nat) (e : Ent), p.es[g]? = some e → FnG P w K mg base noCX k (He.fAd K e.d.at_) (fdOf g) e.ps (spF K RX (cf g))) (g : Nat) (e : Ent) (he : p.es[g]? = some e) :
    FnG P w K mg base noCX (k + 1) (He.fAd K e.d.at_) (fdOf g) e.ps (spF K RX (run e.fn cf)) := by
  have c := hc g e he
  obtain ⟨S, pp, cs⟩ := chk_scope c
  obtain ⟨oc, od, dV, kV, doc, pm, an, cdv, ct, osl, e1, lk, hcd, _, _⟩ := (st.def_ g e he).ex
  rw [e1] at lk ⊢
  have bd : ∀ {H ws Q E}, spF K RX (run e.fn cf) ws H Q E → ws.length = e.fn.np ∧ ∃ b, tS (frB K RX cf b E) e.fn.body { nx := fun _ H' => Q .non H', rt := Q } (L2.start e.N ws) H := fun h => toBody hR rfl h
  refine fn_ofG lk hcd S (fun ws H Q E h => (bd h).1) fun A out s H ws Q E hr hgd h => ?_
  obtain ⟨_, b, q⟩ := bd h
  refine ⟨_, PSs.nox ?_, q⟩
  have u := hr.un
  have T : Fit noCX (p.cc e) (cxOf noCX P w K mg base e.N e.d.qual e.d.scope (He.fAd K e.d.at_) cdv A out s H E).nox (frB K RX cf b E) := by
    refine ⟨rfl, rfl, S.nd, rfl, rfl, hgd, ?_, fun _ _ => rfl, st.free, st.con, fun _ => noCX_passes, ⟨E, noCX_passes, fun _ _ _ _ h => h⟩, fun x g' hx => ?_⟩
    · show (A.deeper _).units + 65 < cLine
      omega
    · obtain ⟨e', he', hm⟩ := st.glo x g' hx
      have D := st.def_ g' e' he'
      have pl := (chk_scope (hc g' e' he')).2.1
      exact ⟨k, _, _, _, ih g' e' he', hr, hm, D.kp, D.bindsN fun _ _ _ _ _ _ _ hl => bind_plain pl hl⟩
  have hk : fnK (p.cc e) = true := by
    show (match e.d.scope.kind with | .function => true | _ => false) = true
    rw [S.kind]
  exact okSs noCX e.ir T hk PassesOwn.never cs
/-- all functions, to every depth: some by contracts S that hold at the level k0 -/
theorem okFn {P : Program} {w : World} {K : PySem.W.Frag} {mg : Str → Option Value} {base : Heap} {p : Pgm} {Pf : Nat → Option Fn} {S : Nat → Option Spec} {k0 : Nat} {RX : Hp → List Addr → Nat → List PV → Value → Option Addr → Prop} {fdOf : Nat → FuncData}
    (hR : ∀ H μ n j zs cls d, RX H μ j zs cls d → RX H (μ.take n) j zs cls d) (hP : ∀ (g : Nat) (e : Ent), p.es[g]? = some e → Pf g = some e.fn) (hc : ∀ (g : Nat) (e : Ent), p.es[g]? = some e → chkEnt p e = true) (st : Stands p K mg fdOf)
    (hS : ∀ (g : Nat) (e : Ent) (s : Spec), p.es[g]? = some e → S g = some s → FnG P w K mg base noCX k0 (He.fAd K e.d.at_) (fdOf g) e.ps (spF K RX s)) :
    ∀ (k g : Nat) (e : Ent), p.es[g]? = some e → FnG P w K mg base noCX (k0 + k) (He.fAd K e.d.at_) (fdOf g) e.ps (spF K RX (callF Pf S k g)) := by
  intro k
  induction k with
  | zero =>
    intro g e he
    cases hs : S g with
    | some s =>
      have e1 : callF Pf S 0 g = s := by show opt (S g) (fun _ _ => .no) (fun s => s) = s; rw [hs]; rfl
      rw [e1]
      exact hS g e s he hs
    | none =>
      have e1 : callF Pf S 0 g = fun _ _ => .no := by show opt (S g) (fun _ _ => .no) (fun s => s) = _; rw [hs]; rfl
      rw [e1]
      have never : ∀ {ws H Q E}, spF K RX (fun _ _ => .no) ws H Q E → False := by
        rintro ws H Q E ⟨b, μ, M, as, m, r, q⟩
        exact q
      exact ⟨fun ws H Q E h => (never h).elim, fun _ _ _ _ _ _ _ _ _ _ _ _ _ _ h => (never h).elim⟩
  | succ k ih =>
    intro g e he
    cases hs : S g with
    | some s =>
      have e1 : callF Pf S (k + 1) g = s := by show opt (S g) _ (fun s => s) = s; rw [hs]; rfl
      rw [e1]
      exact fnG_mono (Nat.le_add_right _ _) (hS g e s he hs)
    | none =>
      have e1 : callF Pf S (k + 1) g = run e.fn (callF Pf S k) := by
        show opt (S g) (fun as M => opt (Pf g) .no fun f => run f (callF Pf S k) as M) (fun s => s) = _
        rw [hs, hP g e he]
        rfl
      rw [e1]
      exact okFn1 hR hc st ih g e he
end Ev

set_option Elab.async false
set_option linter.all false
set_option maxRecDepth 100000
set_option maxHeartbeats 1000000
/-! Sl3: contracts by closed runs. -/
namespace Ev
open PySem PySem.Spec PyProof.Rows L2
noncomputable section
section
variable {K : PySem.W.Frag} {H H' : Hp} {μ μ' : List Addr} {M : Mem} {b : Nat}
/-- behind a run in an empty memory -/
theorem frame0 (m : RM K b H μ M) (x : Ext 0 H [] [] H' μ' []) : Ext b H μ M H' μ M ∧ RM K b H' μ M := by
  have k : ∀ a o, H a = some o → H' a = some o := fun a o e => x.keep a o e fun i o h _ => by simp at h
  exact ⟨Ext.same k, m.same k⟩
/-- behind a run in a memory with one object of ours, at d -/
theorem frame1 {d : Nat} {a : Addr} {o o' os os' : Obj} (m : RM K b H μ M) (hd : μ[d]? = some a) (hM : M[d]? = some o) (w : Own o) (w' : Own o') (l0 : ∀ c, LowO c o') (x : Ext 0 H [a] [os] H' μ' [os']) (back : RO K H' μ a o') :
    Ext b H μ M H' μ (M.set d o') ∧ RM K b H' μ (M.set d o') := by
  have hl : d < M.length := (List.getElem?_eq_some_iff.mp hM).1
  have k : ∀ c u, c ≠ a → H c = some u → H' c = some u := fun c u hne e => x.keep c u e fun i o h1 h2 w => by
    cases i with
    | zero => simp at h1; exact hne h1.symm
    | succ i => simp at h1
  have at_ : ∀ {j : Nat} {u : Obj}, (M.set d o')[j]? = some u → (j = d ∧ u = o') ∨ (j ≠ d ∧ M[j]? = some u) := fun {j u} h => by
    by_cases e : d = j
    · subst e
      rw [List.getElem?_set_self hl] at h
      cases h
      exact .inl ⟨rfl, rfl⟩
    · rw [List.getElem?_set_ne e] at h
      exact .inr ⟨fun z => e z.symm, h⟩
  have X : Ext b H μ M H' μ (M.set d o') := by
    refine ⟨⟨[], by simp, fun _ h => by simp at h⟩, fun c u e f => k c u (fun z => by subst z; exact f d o hd hM w) e, fun i u _ h w2 => ?_, x.frz, x.tup, x.dom, fun c _ q i u hi h => ?_⟩
    · rcases at_ h with ⟨rfl, rfl⟩ | ⟨_, h⟩
      · exact ⟨o, hM, w⟩
      · exact ⟨u, h, w2⟩
    · rcases at_ h with ⟨rfl, rfl⟩ | ⟨_, h⟩
      · exact l0 c
      · exact q i u hi h
  refine ⟨X, by rw [List.length_set]; exact m.len, fun i j c u u' h1 h2 h3 h4 w1 w2 => ?_, fun i c u h1 h2 => ?_, by rw [List.length_set]; exact m.base⟩
  · rcases at_ h3 with ⟨e1, e2⟩ | ⟨e1, g3⟩ <;> rcases at_ h4 with ⟨e3, e4⟩ | ⟨e3, g4⟩
    · rw [e1, e3]
    · subst e1; exact m.nd i j c o u' h1 h2 hM g4 w w2
    · subst e3; exact m.nd i j c u o h1 h2 g3 hM w1 w
    · exact m.nd i j c u u' h1 h2 g3 g4 w1 w2
  · rcases at_ h2 with ⟨e1, e2⟩ | ⟨e1, h2⟩
    · subst e1 e2
      rw [hd] at h1; cases h1
      exact back
    · exact (m.obj i c u h1 h2).ext X fun w1 y e => k c y (fun z => by subst z; exact e1 (m.nd i d c u o h1 hd h2 hM w1 w)) e
end
/-! ### what is looked up -/
def isI (v : PV) : Bool := v.onI false fun _ => true
def threeI (xs : List PV) : Bool := lc xs false fun a r => lc r false fun b q => lc q false fun d z => lc z (yes (isI a) (yes (isI b) (isI d) false) false) fun _ _ => false
/-- dice: three ints -/
def diceO (o : Obj) : Bool := match o with | .box k => Nat.beq k 0 | .lst xs => threeI xs | .ro _ => false | .dk _ => false | .dt _ => false
def diceAt (M : Mem) (d : Nat) : Bool := opt (nth M d) false diceO
theorem yesT {a b : Bool} (h : yes a b false = true) : a = true ∧ b = true := by
  cases a
  · cases h
  · exact ⟨rfl, h⟩
theorem isI_int {v : PV} (h : isI v = true) : ∃ i, v = .int i := by
  cases v <;> first | (cases h; done) | exact ⟨_, rfl⟩
theorem RVs.threeI {K : PySem.W.Frag} {H : Hp} {μ : List Addr} {xs : List PV} {vs : List V} (r : RVs K H μ xs vs) (h : Ev.threeI xs = true) : ∃ i j l : Int, xs = [.int i, .int j, .int l] ∧ vs = [.int i, .int j, .int l] := by
  match xs, h with
  | [a, b, c], h =>
    have h : yes (isI a) (yes (isI b) (isI c) false) false = true := h
    obtain ⟨h1, h⟩ := yesT h
    obtain ⟨h2, h3⟩ := yesT h
    obtain ⟨i, rfl⟩ := isI_int h1
    obtain ⟨j, rfl⟩ := isI_int h2
    obtain ⟨l, rfl⟩ := isI_int h3
    cases r with
    | cons r1 r => cases r with
      | cons r2 r => cases r with
        | cons r3 r =>
          cases r; cases r1; cases r2; cases r3
          exact ⟨i, j, l, rfl, rfl⟩
theorem RO.dice {K : PySem.W.Frag} {H : Hp} {μ : List Addr} {a : Addr} {o : Obj} (r : RO K H μ a o) (h : diceO o = true) : Own o ∧ ∃ i j l : Int, H a = some (.lst [.int i, .int j, .int l]) := by
  cases r with
  | lst h1 h2 =>
    obtain ⟨i, j, l, rfl, rfl⟩ := h2.threeI h
    exact ⟨trivial, i, j, l, h1⟩
  | ro _ _ => cases h
  | dk _ _ => cases h
  | dt _ _ => cases h
  | @box k vs h1 h2 =>
    have e : k = 0 := Nat.eq_of_beq_eq_true h
    subst e
    obtain ⟨i, j, l, rfl⟩ := h2
    exact ⟨trivial, i, j, l, h1⟩
theorem RM.one {K : PySem.W.Frag} {H : Hp} {a : Addr} {o : Obj} (r : RO K H [a] a o) : RM K 0 H [a] [o] := by
  refine ⟨rfl, fun i j c u u' h1 h2 h3 h4 _ _ => ?_, fun i c u h1 h2 => ?_, Nat.zero_le _⟩
  · cases i with
    | zero => cases j with
      | zero => rfl
      | succ j => simp at h4
    | succ i => simp at h3
  · cases i with
    | zero => simp at h1 h2; subst h1 h2; exact r
    | succ i => simp at h2
theorem Ext.mu1 {K : PySem.W.Frag} {b : Nat} {H H' : Hp} {a : Addr} {os os' : Obj} {μ' : List Addr} (x : Ext b H [a] [os] H' μ' [os']) (m : RM K b H' μ' [os']) : μ' = [a] := by
  obtain ⟨ν, e, _⟩ := x.pre
  have := m.len
  rw [e] at this ⊢
  cases ν with
  | nil => rfl
  | cons _ _ => simp at this
theorem Ext.mu0 {K : PySem.W.Frag} {b : Nat} {H H' : Hp} {μ' : List Addr} (x : Ext b H [] [] H' μ' []) (m : RM K b H' μ' []) : μ' = [] := by
  have := m.len
  cases μ' with
  | nil => rfl
  | cons _ _ => simp at this
/-- without references -/
def clean (v : PV) : Bool := below 0 deep v
theorem clean_low {v : PV} (h : clean v = true) : Low 0 v := below_low h
theorem RV.moved {K : PySem.W.Frag} {H : Hp} {μ ν : List Addr} {v : PV} {w : V} (l : Low 0 v) (r : RV K H μ v w) : RV K H ν v w := by
  have := (r.cut l).app ν
  rw [List.take_zero, List.nil_append] at this
  exact this
theorem RVs.moved {K : PySem.W.Frag} {H : Hp} {μ ν : List Addr} {v : List PV} {w : List V} (l : Lows 0 v) (r : RVs K H μ v w) : RVs K H ν v w := by
  have := (r.cut l).app ν
  rw [List.take_zero, List.nil_append] at this
  exact this
def eqL (as bs : List PV) : Bool := eqAllF (eqT deep) as bs
theorem eqL_eq : ∀ {as bs : List PV}, eqL as bs = true → as = bs
  | [], [], _ => rfl
  | [], _ :: _, h => by cases h
  | _ :: _, [], h => by cases h
  | a :: as, b :: bs, h => by
    have h : yes (eqT deep a b) (eqL as bs) false = true := h
    obtain ⟨h1, h2⟩ := yesT h
    rw [eqT_eq h1, eqL_eq h2]
def look {α : Type} (tab : List (List PV × α)) (as : List PV) : Option α := lr none (fun p _ r => yes (eqL p.1 as) (some p.2) r) tab
theorem look_mem {α : Type} {as : List PV} {x : α} : ∀ {tab : List (List PV × α)}, look tab as = some x → (as, x) ∈ tab
  | [], h => by cases h
  | p :: t, h => by
    have h : yes (eqL p.1 as) (some p.2) (look t as) = some x := h
    cases e : eqL p.1 as with
    | true =>
      rw [e] at h
      cases h
      rw [← eqL_eq e]
      exact List.mem_cons_self
    | false =>
      rw [e] at h
      exact List.mem_cons_of_mem _ (look_mem h)
def inL (l : List PV) (v : PV) : Bool := anyL (eqT deep v) l
theorem inL_mem {v : PV} : ∀ {l : List PV}, inL l v = true → v ∈ l
  | [], h => by cases h
  | x :: l, h => by
    have h : yes (eqT deep v x) true (inL l v) = true := h
    cases e : eqT deep v x with
    | true => rw [eqT_eq e]; exact List.mem_cons_self
    | false => rw [e] at h; exact List.mem_cons_of_mem _ (inL_mem h)
/-- any of l -/
def chs (l : List PV) (M : Mem) : Res PV := .ch (len l) fun i => opt (nth l i) .no fun v => .ok v M
theorem chs_ok {l : List PV} {M : Mem} {G : PV → Mem → Prop} {E : Nat → List PV → Mem → Prop} (h : Ok (chs l M) G E) : ∀ v ∈ l, G v M := fun v hv => by
  obtain ⟨i, hi, e⟩ := List.mem_iff_getElem.mp hv
  have q : Ok (opt (nth l i) .no fun v => .ok v M) G E := h i (by rw [len_eq]; exact hi)
  rw [nth_eq, List.getElem?_eq_getElem hi, e] at q
  exact q
/-! ### a function of a closed table -/
def pureS (tab : List (List PV × PV)) : Spec := fun as M => opt (look tab as) .no fun v => .ok v M
/-- r is the value v, nothing left -/
def isVal (v : PV) (r : Res PV) : Bool := Res.rec (motive := fun _ => Bool) (fun w M => lc M (eqT deep w v) fun _ _ => false) (fun _ _ _ => false) false (fun _ _ _ => false) r
def cleanP (p : List PV × PV) : Bool := yes (allL clean p.1) (clean p.2) false
theorem lows_clean {l : List PV} (h : allL clean l = true) : Lows 0 l := by
  rw [allL_eq] at h
  exact Lows.mem.mpr fun x hx => clean_low (List.all_eq_true.mp h x hx)
theorem pure_ok {K : PySem.W.Frag} {RX : Hp → List Addr → Nat → List PV → Value → Option Addr → Prop} {tab : List (List PV × PV)} {cf : Spec} (hc : allL cleanP tab = true) (h : ∀ p ∈ tab, isVal p.2 (cf p.1 []) = true) (ws : List V) (H : Hp) (Q : VK) (E : XK)
    (q : spF K RX (pureS tab) ws H Q E) : spF K RX cf ws H Q E := by
  obtain ⟨b, μ, M, as, m, r, q⟩ := q
  obtain ⟨v, e, q⟩ := opt_ok (show Ok (opt (look tab as) .no fun v => .ok v M) _ _ from q)
  have mem := look_mem e
  have cl : cleanP (as, v) = true := by rw [allL_eq] at hc; exact List.all_eq_true.mp hc _ mem
  obtain ⟨c1, c2⟩ := yesT cl
  have hv := h _ mem
  refine ⟨0, [], [], as, ⟨rfl, fun i j a o o' h1 => by simp at h1, fun i a o h1 => by simp at h1, Nat.zero_le _⟩, r.moved (lows_clean c1), ?_⟩
  dsimp only at hv
  cases e2 : cf as [] with
  | ok w M' =>
    rw [e2] at hv
    cases M' with
    | cons _ _ => cases hv
    | nil =>
      have hv : eqT deep w v = true := hv
      obtain rfl := eqT_eq hv
      intro V H' μ' x m' r'
      obtain rfl := x.mu0 m'
      obtain ⟨x2, m2⟩ := frame0 m x
      exact q V H' μ x2 m2 (r'.moved (clean_low c2))
  | exc => rw [e2] at hv; cases hv
  | no => rw [e2] at hv; cases hv
  | ch => rw [e2] at hv; cases hv
/-! ### a function with dice: any of some values -/
def genS (tab : List (List PV × List PV)) : Spec := fun as M => lc as .no fun o r => o.onR .no fun d => yes (diceAt M d) (opt (look tab r) .no fun l => lc l .no fun _ _ => chs l (setL M (.box 0) d)) .no
def isBox0 (M : Mem) : Bool := lc M false fun o r => lc r (match o with | .box k => Nat.beq k 0 | .lst _ => false | .ro _ => false | .dk _ => false | .dt _ => false) fun _ _ => false
theorem isBox0_eq {M : Mem} (h : isBox0 M = true) : M = [.box 0] := by
  cases M with
  | nil => cases h
  | cons o r => cases r with
    | cons _ _ => cases h
    | nil => cases o with
      | box k =>
        have e : k = 0 := Nat.eq_of_beq_eq_true h
        rw [e]
      | _ => cases h
def allN (n : Nat) (f : Nat → Bool) : Bool := nr true (fun i r => yes (f i) r false) n
theorem allN_all {f : Nat → Bool} : ∀ {n : Nat}, allN n f = true → ∀ i, i < n → f i = true
  | 0, _, i, hi => by omega
  | n + 1, h, i, hi => by
    have h : yes (f n) (allN n f) false = true := h
    obtain ⟨h1, h2⟩ := yesT h
    rcases Nat.lt_or_ge i n with z | z
    · exact allN_all h2 i z
    · obtain rfl : i = n := by omega
      exact h1
def chkM (l : List PV) (r : Res PV) : Bool := Res.rec (motive := fun _ => Bool) (fun v M => yes (isBox0 M) (inL l v) false) (fun _ _ _ => false) false (fun n _ ih => allN n ih) r
theorem chkM_ok {l : List PV} {r : Res PV} {G : PV → Mem → Prop} {E : Nat → List PV → Mem → Prop} (h : chkM l r = true) (hG : ∀ v ∈ l, G v [.box 0]) : Ok r G E := by
  induction r with
  | ok v M =>
    obtain ⟨h1, h2⟩ := yesT (show yes (isBox0 M) (inL l v) false = true from h)
    rw [isBox0_eq h1]
    exact hG v (inL_mem h2)
  | exc => cases h
  | no => cases h
  | ch n f ih => exact fun i hi => ih i (allN_all (f := fun i => chkM l (f i)) h i hi)
/-- the way i of a choice; is it a choice of n? -/
def br (r : Res PV) (i : Nat) : Res PV := Res.rec (motive := fun _ => Res PV) (fun _ _ => .no) (fun _ _ _ => .no) .no (fun _ f _ => f i) r
def isCh (n : Nat) (r : Res PV) : Bool := Res.rec (motive := fun _ => Bool) (fun _ _ => false) (fun _ _ _ => false) false (fun m _ _ => Nat.beq m n) r
theorem chkM_split {l : List PV} {r : Res PV} {n : Nat} (h : isCh n r = true) (q : ∀ i, i < n → chkM l (br r i) = true) : chkM l r = true := by
  cases r with
  | ch m f =>
    obtain rfl : m = n := Nat.eq_of_beq_eq_true h
    have all : ∀ (k : Nat) (g : Nat → Bool), (∀ i, i < k → g i = true) → allN k g = true := by
      intro k g
      induction k with
      | zero => exact fun _ => rfl
      | succ k ih =>
        intro hg
        show yes (g k) (allN k g) false = true
        rw [hg k (Nat.lt_succ_self k), ih fun i hi => hg i (Nat.lt_succ_of_lt hi)]
        rfl
    exact all m (fun i => chkM l (f i)) q
  | _ => cases h
/-- from a on, n of them -/
def allR (a n : Nat) (f : Nat → Bool) : Bool := nr true (fun i r => yes (f (Nat.add a i)) r false) n
theorem allR_all {a : Nat} {f : Nat → Bool} : ∀ {n : Nat}, allR a n f = true → ∀ i, a ≤ i → i < a + n → f i = true
  | 0, _, i, h1, h2 => by omega
  | n + 1, h, i, h1, h2 => by
    have h : yes (f (Nat.add a n)) (allR a n f) false = true := h
    obtain ⟨h3, h4⟩ := yesT h
    rcases Nat.lt_or_ge i (a + n) with z | z
    · exact allR_all h4 i h1 z
    · obtain rfl : i = a + n := by omega
      exact h3
def cleanG (p : List PV × List PV) : Bool := yes (allL clean p.1) (allL clean p.2) false
theorem gen_ok {K : PySem.W.Frag} {RX : Hp → List Addr → Nat → List PV → Value → Option Addr → Prop} {tab : List (List PV × List PV)} {cf : Spec} (hc : allL cleanG tab = true) (h : ∀ p ∈ tab, chkM p.2 (cf (.ref 0 :: p.1) [.box 0]) = true) (ws : List V) (H : Hp) (Q : VK) (E : XK)
    (q : spF K RX (genS tab) ws H Q E) : spF K RX cf ws H Q E := by
  obtain ⟨b, μ, M, as, m, r, q⟩ := q
  cases as with
  | nil => exact q.elim
  | cons o as =>
    cases o with
    | ref d =>
      obtain ⟨hd, q⟩ := yes_ok (show Ok (yes (diceAt M d) (opt (look tab as) .no fun l => lc l .no fun _ _ => chs l (setL M (.box 0) d)) .no) _ _ from q)
      obtain ⟨l, e, q⟩ := opt_ok q
      have mem := look_mem e
      have cl : cleanG (as, l) = true := by rw [allL_eq] at hc; exact List.all_eq_true.mp hc _ mem
      obtain ⟨c1, c2⟩ := yesT cl
      have hv := h _ mem
      cases r with
      | @cons _ V0 _ Ws r0 rs =>
        cases r0 with
        | @ref _ a ha =>
          obtain ⟨ob, hM, ro⟩ := m.at ha
          have hd : opt (nth M d) false diceO = true := hd
          rw [nth_eq, hM] at hd
          obtain ⟨w, i, j, k, hH⟩ := ro.dice hd
          have bx : ∀ {H : Hp} {ν : List Addr} {i j k : Int}, H a = some (.lst [.int i, .int j, .int k]) → RO K H ν a (.box 0) := fun h => .box h ⟨_, _, _, rfl⟩
          refine ⟨0, [a], [.box 0], .ref 0 :: as, RM.one (bx hH), .cons (.ref rfl) (rs.moved (lows_clean c1)), chkM_ok hv fun v hvl V H' μ' x m' r' => ?_⟩
          obtain rfl := x.mu1 m'
          have ro' := m'.obj 0 a (.box 0) rfl rfl
          obtain ⟨_, i', j', k', hH'⟩ := ro'.dice rfl
          obtain ⟨x2, m2⟩ := frame1 m ha hM w (o' := .box 0) trivial (fun _ => trivial) x (bx hH')
          cases l with
          | nil => cases hvl
          | cons v0 l =>
            have g := chs_ok (show Ok (chs (v0 :: l) (setL M (.box 0) d)) _ _ from q) v hvl
            rw [setL_eq] at g
            have cv : clean v = true := by rw [allL_eq] at c2; exact List.all_eq_true.mp c2 v hvl
            exact g V H' μ x2 m2 (r'.moved (clean_low cv))
    | _ => exact q.elim
/-! ### dice rolled -/
def rollS : Spec := fun as M => lc as .no fun o r => lc r .no fun t z => lc z (o.onR .no fun d => t.onI .no fun i => ic i (fun n => yes (Nat.ble 1 n) (yes (Nat.ble n 1073741823) (yes (diceAt M d) (.ch n fun k => .ok (.int (.ofNat k)) (setL M (.box 0) d)) .no) .no) .no) fun _ => .no) fun _ _ => .no
theorem roll_ok {K : PySem.W.Frag} {RX : Hp → List Addr → Nat → List PV → Value → Option Addr → Prop} {cf : Spec}
    (h : ∀ (i j l : Int) (n : Nat), 1 ≤ n → n ≤ 1073741823 → ∃ (k : Nat) (i' j' l' : Int), k < n ∧ cf [.ref 0, .int (.ofNat n)] [.lst [.int i, .int j, .int l]] = .ok (.int (.ofNat k)) [.lst [.int i', .int j', .int l']]) (ws : List V) (H : Hp) (Q : VK) (E : XK)
    (q : spF K RX rollS ws H Q E) : spF K RX cf ws H Q E := by
  obtain ⟨b, μ, M, as, m, r, q⟩ := q
  have two : ∃ (d n : Nat), as = [.ref d, .int (.ofNat n)] ∧ Ok (yes (Nat.ble 1 n) (yes (Nat.ble n 1073741823) (yes (diceAt M d) (Res.ch n fun k => Res.ok (PV.int (.ofNat k)) (setL M (.box 0) d)) Res.no) Res.no) Res.no) (GdC K b H μ M Q) (fun j zs M' => ∀ cls d H' μ', Ext b H μ M H' μ' M' → RM K b H' μ' M' → RX H' μ' j zs cls d → E cls d H') := by
    cases as with
    | nil => exact q.elim
    | cons o r1 => cases r1 with
      | nil => exact q.elim
      | cons t r2 => cases r2 with
        | cons _ _ => exact q.elim
        | nil => cases o with
          | ref d => cases t with
            | int i => cases i with
              | ofNat n => exact ⟨d, n, rfl, q⟩
              | negSucc n => exact q.elim
            | _ => exact q.elim
          | _ => exact q.elim
  obtain ⟨d, n, rfl, q⟩ := two
  cases r with
  | cons r0 r => cases r with
    | cons r1 r =>
    cases r
    obtain ⟨h1, q⟩ := yes_ok q
    obtain ⟨h2, q⟩ := yes_ok q
    obtain ⟨hd, q⟩ := yes_ok q
    rw [natBle] at h1 h2
    cases r0 with
    | @ref _ a ha =>
      obtain ⟨ob, hM, ro⟩ := m.at ha
      have hd : opt (nth M d) false diceO = true := hd
      rw [nth_eq, hM] at hd
      obtain ⟨w, i, j, l, hH⟩ := ro.dice hd
      obtain ⟨k, i', j', l', hk, e⟩ := h i j l n h1 h2
      have three : ∀ {H : Hp} {ν : List Addr} (i j l : Int), RVs K H ν [.int i, .int j, .int l] [.int i, .int j, .int l] := fun i j l => .cons (.int i) (.cons (.int j) (.cons (.int l) .nil))
      refine ⟨0, [a], [.lst [.int i, .int j, .int l]], [.ref 0, .int (.ofNat n)], RM.one (.lst hH (three i j l)), .cons (.ref rfl) (.cons ?_ .nil), ?_⟩
      · cases r1; exact .int _
      rw [e]
      intro V H' μ' x m' r'
      obtain rfl := x.mu1 m'
      have ro' := m'.obj 0 a _ rfl rfl
      obtain ⟨_, i2, j2, l2, hH'⟩ := ro'.dice rfl
      obtain ⟨x2, m2⟩ := frame1 m ha hM w (o' := .box 0) trivial (fun _ => trivial) x (.box hH' ⟨_, _, _, rfl⟩)
      have g := q k hk
      have g : GdC K b H μ M Q (.int (.ofNat k)) (setL M (.box 0) d) := g
      rw [setL_eq] at g
      refine g V H' μ x2 m2 ?_
      cases r'; exact .int _
end
end Ev

set_option Elab.async false
set_option linter.all false
set_option maxRecDepth 100000
set_option maxHeartbeats 1000000
/-! Sl4: the law's dice. -/
namespace Ev
noncomputable section
section
variable {f : Mem → PV → PV → Res PV} {g : Mem → PV → Res PV} {x y z : Se} {c : Fx} {ρ ρ1 : Rho} {M M1 M2 M3 M4 : Mem} {u v w : PV} {i : Nat} {a b : Ss} {k : Bool}
theorem s2_ok (hx : x c ρ M = .ok v M1) (hy : y c ρ M1 = .ok w M2) : s2 f x y c ρ M = f M2 v w := by
  show (x c ρ M).bind _ = _
  rw [hx]
  show (y c ρ M1).bind _ = _
  rw [hy]
  rfl
theorem bi1_ok (hx : x c ρ M = .ok v M1) : sBi (b1 g) (lCons x lNil) c ρ M = g M1 v := by
  show ((x c ρ M).bind _).bind _ = _
  rw [hx]
  rfl
theorem set_ok (hx : x c ρ M = .ok v M1) : tSet (gName i) x c ρ M = .nx (setL ρ (some v) i) M1 := by
  show (x c ρ M).st _ = _
  rw [hx]
  rfl
theorem put_ok (hz : z c ρ M = .ok u M1) (hx : x c ρ M1 = .ok v M2) (hy : y c ρ M2 = .ok w M3) (hp : evPut c.b M3 v w u = some M4) : tPut x y z c ρ M = .nx ρ M4 := by
  show (z c ρ M).st _ = _
  rw [hz]
  show (x c ρ M1).stN _ = _
  rw [hx]
  show (y c ρ M2).stN _ = _
  rw [hy]
  show opt (evPut c.b M3 v w u) SR.no (fun M4 => SR.nx ρ M4) = _
  rw [hp]
  rfl
theorem seq_ok (h : a c ρ M = .nx ρ1 M1) : tSeq a b c ρ M = b c ρ1 M1 := by
  show (a c ρ M).thn _ = _
  rw [h]
  rfl
theorem seq_rt (h : a c ρ M = .rt v M1) : tSeq a b c ρ M = .rt v M1 := by
  show (a c ρ M).thn _ = _
  rw [h]
  rfl
theorem if_ok (hx : x c ρ M = .ok v M1) (hk : tru M1 v = some k) : tIf x a b c ρ M = yes k (a c ρ M1) (b c ρ M1) := by
  show (x c ρ M).st _ = _
  rw [hx]
  show opt (tru M1 v) .no (fun k => yes k (a c ρ M1) (b c ρ M1)) = _
  rw [hk]
  rfl
theorem ret_ok (hx : x c ρ M = .ok v M1) : tRet x c ρ M = .rt v M1 := by
  show (x c ρ M).st _ = _
  rw [hx]
  rfl
end
theorem modI_lt (i : Int) (n : Nat) : ∃ k, modI i (n + 1) = .ofNat k ∧ k < n + 1 := by
  cases i with
  | ofNat m => exact ⟨m % (n + 1), rfl, Nat.mod_lt _ (Nat.succ_pos n)⟩
  | negSucc m => exact ⟨n + 1 - (m % (n + 1) + 1), rfl, by have := Nat.mod_lt m (Nat.succ_pos n); omega⟩
def rollFn : Fn := ⟨2, 5, (tSeq (tIf (s2 (cmInt fun i j => intLt j i) (s2 evIdx (sVar 0) (sVal (.int (0)))) (sVal (.int (0)))) (tSeq (tSet (gName 4) (s2 opMod (sBi (b1 biInt) (lCons (s2 evIdx (sVar 0) (sVal (.int (0)))) lNil)) (sVar 1))) (tSeq (tPut (sVar 0) (sVal (.int (0))) (s2 opFdiv (s2 evIdx (sVar 0) (sVal (.int (0)))) (sVar 1))) (tSeq (tRet (sVar 4)) tNil))) tNil) (tSeq (tPut (sVar 0) (sVal (.int (2))) (s2 opAdd (s2 evIdx (sVar 0) (sVal (.int (2)))) (sVal (.int (1))))) (tSeq (tSet (gName 2) (s2 opMod (sBi (b1 biInt) (lCons (s2 opAdd (s2 evIdx (sVar 0) (sVal (.int (1)))) (s2 opMul (sVal (.int (15486209))) (s2 evIdx (sVar 0) (sVal (.int (2)))))) lNil)) (sVal (.int (2305843009213693951))))) (tSeq (tSet (gName 3) (s2 opAdd (s2 opMul (s2 opMod (sBi (b1 biInt) (lCons (s2 opAdd (s2 opMul (sVar 2) (sVar 2)) (s2 opMul (sVal (.int (199))) (s2 evIdx (sVar 0) (sVal (.int (2)))))) lNil)) (sVal (.int (2305843009213693907)))) (sVal (.int (7368751)))) (sVar 2))) (tSeq (tRet (s2 opMod (sBi (b1 biInt) (lCons (s2 opFdiv (sVar 3) (sVal (.int (65536)))) lNil)) (sVar 1))) tNil)))))⟩
theorem roll_run (cf : Nat → List PV → Mem → Res PV) (i j l : Int) (n : Nat) (h1 : 1 ≤ n) (h2 : n ≤ 1073741823) :
    ∃ (k : Nat) (i' j' l' : Int), k < n ∧ run rollFn cf [.ref 0, .int (.ofNat n)] [.lst [.int i, .int j, .int l]] = .ok (.int (.ofNat k)) [.lst [.int i', .int j', .int l']] := by
  obtain ⟨m, rfl⟩ : ∃ m, n = m + 1 := ⟨n - 1, by omega⟩
  have hle : Nat.ble (m + 1) 1073741823 = true := natBle.mpr h2
  have start : ∀ {r : SR}, rollFn.body ⟨cf, 1⟩ [some (.ref 0), some (.int (.ofNat (m + 1))), none, none, none] [.lst [.int i, .int j, .int l]] = r → run rollFn cf [.ref 0, .int (.ofNat (m + 1))] [.lst [.int i, .int j, .int l]] = r.out 1 := fun {r} e => by
    show (rollFn.body ⟨cf, 1⟩ [some (.ref 0), some (.int (.ofNat (m + 1))), none, none, none] [.lst [.int i, .int j, .int l]]).out 1 = _
    rw [e]
  cases h : intLt (.ofNat 0) i with
  | true =>
    obtain ⟨k, e, hk⟩ := modI_lt i m
    refine ⟨k, divI i (m + 1), j, l, hk, ?_⟩
    rw [start (r := .rt (.int (modI i (m + 1))) [.lst [.int (divI i (m + 1)), .int j, .int l]]) ?_, e]
    · rfl
    refine seq_rt ?_
    refine (if_ok (k := true) (v := .bl true) (M1 := [.lst [.int i, .int j, .int l]]) ?_ rfl).trans ?_
    · show Res.ok (PV.bl (intLt (.ofNat 0) i)) [Obj.lst [.int i, .int j, .int l]] = _
      rw [h]
    refine (seq_ok (set_ok (v := .int (modI i (m + 1))) (M1 := [.lst [.int i, .int j, .int l]]) rfl)).trans ?_
    refine (seq_ok (put_ok (u := .int (divI i (m + 1))) (M1 := [.lst [.int i, .int j, .int l]]) (M4 := [.lst [.int (divI i (m + 1)), .int j, .int l]]) ?_ rfl rfl rfl)).trans rfl
    show yes (Nat.ble (m + 1) 1073741823) (Res.ok (PV.int (divI i (m + 1))) [Obj.lst [.int i, .int j, .int l]]) Res.no = _
    rw [hle]
    rfl
  | false =>
    have hone : ∃ o : Nat, modI (Int.add j (Int.mul 15486209 (Int.add l 1))) 2305843009213693951 = .ofNat o ∧ o < 2305843009213693951 := modI_lt _ 2305843009213693950
    obtain ⟨o, eo, ho⟩ := hone
    have hf : fitMul (.ofNat o) (.ofNat o) = true := by
      show yes (Nat.ble (Nat.succ o) two64) true _ = true
      rw [show Nat.ble (Nat.succ o) two64 = true from natBle.mpr (by show o + 1 ≤ 18446744073709551616; omega)]
      rfl
    obtain ⟨t, et, ht⟩ := modI_lt (Int.add (Int.mul (.ofNat o) (.ofNat o)) (Int.mul 199 (Int.add l 1))) 2305843009213693906
    obtain ⟨k, ek, hk⟩ := modI_lt (divI (Int.add (Int.mul (.ofNat t) 7368751) (.ofNat o)) 65536) m
    refine ⟨k, i, j, Int.add l 1, hk, ?_⟩
    rw [start (r := .rt (.int (.ofNat k)) [.lst [.int i, .int j, .int (Int.add l 1)]]) ?_]
    · rfl
    refine (seq_ok ((if_ok (k := false) (v := .bl false) (M1 := [.lst [.int i, .int j, .int l]]) ?_ rfl).trans rfl)).trans ?_
    · show Res.ok (PV.bl (intLt (.ofNat 0) i)) [Obj.lst [.int i, .int j, .int l]] = _
      rw [h]
    refine (seq_ok (put_ok (u := .int (Int.add l 1)) (M1 := [.lst [.int i, .int j, .int l]]) (M4 := [.lst [.int i, .int j, .int (Int.add l 1)]]) rfl rfl rfl rfl)).trans ?_
    refine (seq_ok (set_ok (v := .int (.ofNat o)) (M1 := [.lst [.int i, .int j, .int (Int.add l 1)]]) ?_)).trans ?_
    · show Res.ok (PV.int (modI (Int.add j (Int.mul 15486209 (Int.add l 1))) 2305843009213693951)) [Obj.lst [.int i, .int j, .int (Int.add l 1)]] = _
      rw [eo]
    generalize hM : [Obj.lst [.int i, .int j, .int (Int.add l 1)]] = Mx
    generalize hρ : setL [some (.ref 0), some (PV.int (.ofNat (m + 1))), none, none, none] (some (.int (.ofNat o))) 2 = ρ2
    have v2 : ∀ c, sVar 2 c ρ2 Mx = .ok (.int (.ofNat o)) Mx := fun c => by subst hρ; rfl
    have d2 : ∀ c, s2 evIdx (sVar 0) (sVal (.int 2)) c ρ2 Mx = .ok (.int (Int.add l 1)) Mx := fun c => by subst hρ hM; rfl
    have a1 : ∀ c, s2 opMul (sVar 2) (sVar 2) c ρ2 Mx = .ok (.int (Int.mul (.ofNat o) (.ofNat o))) Mx := fun c => (s2_ok (v2 c) (v2 c)).trans (by
      show yes (fitMul (.ofNat o) (.ofNat o)) _ _ = _
      rw [hf]; rfl)
    have a2 : ∀ c, s2 opMul (sVal (.int 199)) (s2 evIdx (sVar 0) (sVal (.int 2))) c ρ2 Mx = .ok (.int (Int.mul 199 (Int.add l 1))) Mx := fun c => (s2_ok (v := .int 199) rfl (d2 c)).trans rfl
    have a3 : ∀ c, s2 opAdd _ _ c ρ2 Mx = .ok (.int (Int.add (Int.mul (.ofNat o) (.ofNat o)) (Int.mul 199 (Int.add l 1)))) Mx := fun c => (s2_ok (a1 c) (a2 c)).trans rfl
    have a4 : ∀ c, sBi (b1 biInt) (lCons _ lNil) c ρ2 Mx = .ok (.int (Int.add (Int.mul (.ofNat o) (.ofNat o)) (Int.mul 199 (Int.add l 1)))) Mx := fun c => (bi1_ok (a3 c)).trans rfl
    have a5 : ∀ c, s2 opMod _ (sVal (.int 2305843009213693907)) c ρ2 Mx = .ok (.int (.ofNat t)) Mx := fun c => (s2_ok (a4 c) (w := .int 2305843009213693907) rfl).trans (by
      show Res.ok (PV.int (modI (Int.add (Int.mul (.ofNat o) (.ofNat o)) (Int.mul 199 (Int.add l 1))) 2305843009213693907)) Mx = _
      rw [et])
    have a6 : ∀ c, s2 opMul _ (sVal (.int 7368751)) c ρ2 Mx = .ok (.int (Int.mul (.ofNat t) 7368751)) Mx := fun c => (s2_ok (a5 c) (w := .int 7368751) rfl).trans (by
      show yes (fitMul (.ofNat t) 7368751) _ _ = _
      have : fitMul (.ofNat t) 7368751 = true := by
        show yes (Nat.ble (Nat.succ t) two64) true true = true
        cases Nat.ble (Nat.succ t) two64 <;> rfl
      rw [this]; rfl)
    have a7 : ∀ c, s2 opAdd _ (sVar 2) c ρ2 Mx = .ok (.int (Int.add (Int.mul (.ofNat t) 7368751) (.ofNat o))) Mx := fun c => (s2_ok (a6 c) (v2 c)).trans rfl
    refine (seq_ok (set_ok (a7 _))).trans ?_
    refine seq_rt (ret_ok ?_)
    have b1' : ∀ c, s2 opFdiv (sVar 3) (sVal (.int 65536)) c (setL ρ2 (some (.int (Int.add (Int.mul (.ofNat t) 7368751) (.ofNat o)))) 3) Mx = .ok (.int (divI (Int.add (Int.mul (.ofNat t) 7368751) (.ofNat o)) 65536)) Mx := fun c => by subst hρ; rfl
    refine (s2_ok ((bi1_ok (b1' _)).trans rfl) (w := .int (.ofNat (m + 1))) (by subst hρ; rfl)).trans ?_
    show Res.ok (PV.int (modI (divI (Int.add (Int.mul (.ofNat t) 7368751) (.ofNat o)) 65536) (m + 1))) Mx = _
    rw [ek]
theorem ite_ok {x y z : Se} {c : Fx} {ρ : Rho} {M M1 : Mem} {v : PV} {k : Bool} (hx : x c ρ M = .ok v M1) (hk : tru M1 v = some k) : sIte x y z c ρ M = yes k (y c ρ M1) (z c ρ M1) := by
  show (x c ρ M).bind _ = _
  rw [hx]
  show opt (tru M1 v) Res.no (fun k => yes k (y c ρ M1) (z c ρ M1)) = _
  rw [hk]
  rfl
theorem lst3_ok {x y z : Se} {c : Fx} {ρ : Rho} {M : Mem} {u v w : PV} (hx : x c ρ M = .ok u M) (hy : y c ρ M = .ok v M) (hz : z c ρ M = .ok w M) : sLst (lCons x (lCons y (lCons z lNil))) c ρ M = new M (.lst [u, v, w]) := by
  show ((x c ρ M).bind _).bind _ = _
  rw [hx]
  show (((y c ρ M).bind _).bind _).bind _ = _
  rw [hy]
  show ((((z c ρ M).bind _).bind _).bind _).bind _ = _
  rw [hz]
  rfl
def diceFn : Fn := ⟨2, 4, (tSeq (tSet (gName 2) (sIte (s2 (cmInt intLt) (sVar 1) (sBi (b1 biLen) (lCons (sVar 0) lNil))) (sBi (b1 biInt) (lCons (s2 evIdx (sVar 0) (sVar 1)) lNil)) (s2 opAdd (s2 opMul (sVal (.int (97))) (sVar 1)) (sVal (.int (43)))))) (tSeq (tSet (gName 3) (s2 opMod (sBi (b2 biMax2) (lCons (sVal (.int (0))) (lCons (s2 opSub (sBi (b1 biAbs) (lCons (sVar 2) lNil)) (s2 opPow (sVal (.int (10))) (sVal (.int (17))))) lNil))) (s2 opMul (s2 opPow (sVal (.int (10))) (sVal (.int (60)))) (s2 opPow (sVal (.int (10))) (sVal (.int (60))))))) (tSeq (tRet (sLst (lCons (sVar 3) (lCons (s2 opAdd (s2 opAdd (s2 opAdd (s2 opMul (s2 opMod (sBi (b1 biAbs) (lCons (sVar 2) lNil)) (sVal (.int (1152921504606846737)))) (sVal (.int (37)))) (s2 opMul (sVal (.int (859))) (sVar 1))) (s2 opMul (sVal (.int (31))) (sBi (b1 biInt) (lCons (s2 (cmInt intLt) (sVar 2) (sVal (.int (0)))) lNil)))) (sVal (.int (17)))) (lCons (sVal (.int (0))) lNil))))) tNil)))⟩
theorem dice_run (cf : Nat → List PV → Mem → Res PV) (M : Mem) (s : Nat) (xs : List PV) (k : Nat) (hs : nth M s = some (.ro xs)) (hx : ∀ v, xs[k]? = some v → ∃ i, v = .int i) :
    ∃ i j l : Int, run diceFn cf [.ref s, .int (.ofNat k)] M = .ok (.ref (len M)) (app M [.lst [.int i, .int j, .int l]]) := by
  have cell : ∃ q : Int, ∀ c, sIte (s2 (cmInt intLt) (sVar 1) (sBi (b1 biLen) (lCons (sVar 0) lNil))) (sBi (b1 biInt) (lCons (s2 evIdx (sVar 0) (sVar 1)) lNil)) (s2 opAdd (s2 opMul (sVal (.int (97))) (sVar 1)) (sVal (.int (43)))) c
      [some (.ref s), some (.int (.ofNat k)), none, none] M = .ok (.int q) M := by
    have hb : ∀ c, (sBi (b1 biLen) (lCons (sVar 0) lNil)) c [some (.ref s), some (.int (.ofNat k)), none, none] M = .ok (.int (.ofNat (len xs))) M := fun c => (bi1_ok (v := .ref s) (M1 := M) rfl).trans (by
      show opt (nth M s) Res.no (fun o => opt o.items (opt o.dict Res.no fun d => Res.ok (PV.int (.ofNat (len d.2))) M) fun xs => Res.ok (PV.int (.ofNat (len xs))) M) = _
      rw [hs]
      rfl)
    have ht : ∀ c, (s2 (cmInt intLt) (sVar 1) (sBi (b1 biLen) (lCons (sVar 0) lNil))) c [some (.ref s), some (.int (.ofNat k)), none, none] M = .ok (.bl (intLt (.ofNat k) (.ofNat (len xs)))) M := fun c => (s2_ok (v := .int (.ofNat k)) (M1 := M) rfl (hb c)).trans rfl
    cases h : intLt (.ofNat k) (.ofNat (len xs)) with
    | true =>
      have hl : k < xs.length := by
        rw [intLt_iff, len_eq] at h
        exact Int.ofNat_lt.mp (of_decide_eq_true h)
      obtain ⟨i, e⟩ := hx _ (List.getElem?_eq_getElem hl)
      refine ⟨i, fun c => (ite_ok (ht c) (k := true) (by show some _ = _; rw [h])).trans ?_⟩
      refine (bi1_ok (v := .int i) (M1 := M) ((s2_ok (v := .ref s) (M1 := M) (w := .int (.ofNat k)) (M2 := M) rfl rfl).trans ?_)).trans rfl
      show opt (nth M s) Res.no (fun o => opt o.items (opt o.dict Res.no fun d => yes (keyOk d.1 (.int (.ofNat k))) (opt (find (.int (.ofNat k)) d.2) Res.no fun v => Res.ok v M) Res.no) fun xs => opt (nth xs k) Res.no fun v => Res.ok v M) = _
      rw [hs]
      show opt (nth xs k) Res.no (fun v => Res.ok v M) = _
      rw [nth_eq, List.getElem?_eq_getElem hl, e]
      rfl
    | false => exact ⟨Int.add (Int.mul 97 (.ofNat k)) 43, fun c => (ite_ok (ht c) (k := false) (by show some _ = _; rw [h])).trans rfl⟩
  obtain ⟨q, hq⟩ := cell
  obtain ⟨t, et, ht⟩ := modI_lt (.ofNat q.natAbs) 1152921504606846736
  let left : Int := modI (yes (intLt 0 (Int.sub (.ofNat q.natAbs) (.ofNat (Nat.pow 10 17)))) (Int.sub (.ofNat q.natAbs) (.ofNat (Nat.pow 10 17))) 0) (Nat.mul (Nat.pow 10 60) (Nat.pow 10 60))
  let mid : Int := Int.add (Int.add (Int.add (Int.mul (.ofNat t) 37) (Int.mul 859 (.ofNat k))) (Int.mul 31 (b2i (intLt q 0)))) 17
  refine ⟨left, mid, 0, ?_⟩
  have start : ∀ {r : SR}, diceFn.body ⟨cf, len M⟩ [some (.ref s), some (.int (.ofNat k)), none, none] M = r → run diceFn cf [.ref s, .int (.ofNat k)] M = r.out (len M) := fun {r} e => by
    show (diceFn.body ⟨cf, len M⟩ [some (.ref s), some (.int (.ofNat k)), none, none] M).out (len M) = _
    rw [e]
  rw [start (r := .rt (.ref (len M)) (app M [.lst [.int left, .int mid, .int 0]])) ?_]
  · show drop (len M) (app M [.lst [.int left, .int mid, .int 0]]) (.ref (len M)) = _
    have e1 : len (app M [Obj.lst [.int left, .int mid, .int 0]]) = len M + 1 := by rw [len_eq, len_eq, app_eq, List.length_append]; rfl
    have e2 : Nat.ble (len M + 1) (len M) = false := by
      cases h : Nat.ble (len M + 1) (len M) with
      | false => rfl
      | true => rw [natBle] at h; omega
    have e3 : nth (app M [Obj.lst [.int left, .int mid, .int 0]]) (len M) = some (.lst [.int left, .int mid, .int 0]) := by
      rw [nth_eq, app_eq, len_eq, List.getElem?_append_right (Nat.le_refl _), Nat.sub_self]; rfl
    have e4 : takeL (app M [Obj.lst [.int left, .int mid, .int 0]]) (len M) = M := by rw [takeL_eq, app_eq, len_eq, List.take_left]
    unfold drop
    rw [e1, e2]
    show yes (Nat.ble (Nat.succ (len M)) (len M)) _ (opt (nth (app M [Obj.lst [.int left, .int mid, .int 0]]) (len M)) _ _) = _
    rw [e2, e3]
    show Res.ok (PV.ref (len M)) (app (takeL (app M [Obj.lst [.int left, .int mid, .int 0]]) (len M)) [.lst [.int left, .int mid, .int 0]]) = _
    rw [e4]
  refine (seq_ok (set_ok (hq _))).trans ?_
  generalize hM : M = Mx
  refine (seq_ok (set_ok (v := .int left) (M1 := Mx) rfl)).trans ?_
  generalize hρ : setL (setL [some (PV.ref s), some (PV.int (Int.ofNat k)), none, none] (some (PV.int q)) 2) (some (PV.int left)) 3 = ρ
  have v1 : ∀ c, sVar 1 c ρ Mx = .ok (.int (.ofNat k)) Mx := fun c => by subst hρ; rfl
  have v2 : ∀ c, sVar 2 c ρ Mx = .ok (.int q) Mx := fun c => by subst hρ; rfl
  have v3 : ∀ c, sVar 3 c ρ Mx = .ok (.int left) Mx := fun c => by subst hρ; rfl
  have a1 : ∀ c, sBi (b1 biAbs) (lCons (sVar 2) lNil) c ρ Mx = .ok (.int (.ofNat q.natAbs)) Mx := fun c => (bi1_ok (v2 c)).trans rfl
  have a2 : ∀ c, s2 opMod _ (sVal (.int 1152921504606846737)) c ρ Mx = .ok (.int (.ofNat t)) Mx := fun c => (s2_ok (a1 c) (w := .int 1152921504606846737) rfl).trans (by
    show Res.ok (PV.int (modI (.ofNat q.natAbs) 1152921504606846737)) Mx = _
    rw [et])
  have a3 : ∀ c, s2 opMul _ (sVal (.int 37)) c ρ Mx = .ok (.int (Int.mul (.ofNat t) 37)) Mx := fun c => (s2_ok (a2 c) (w := .int 37) rfl).trans (by
    show yes (fitMul (.ofNat t) 37) _ _ = _
    have : fitMul (.ofNat t) 37 = true := by
      show yes (Nat.ble (Nat.succ t) two64) true true = true
      cases Nat.ble (Nat.succ t) two64 <;> rfl
    rw [this]; rfl)
  have a4 : ∀ c, s2 opMul (sVal (.int 859)) (sVar 1) c ρ Mx = .ok (.int (Int.mul 859 (.ofNat k))) Mx := fun c => (s2_ok (v := .int 859) rfl (v1 c)).trans rfl
  have a5 : ∀ c, s2 opAdd _ _ c ρ Mx = .ok (.int (Int.add (Int.mul (.ofNat t) 37) (Int.mul 859 (.ofNat k)))) Mx := fun c => (s2_ok (a3 c) (a4 c)).trans rfl
  have a6 : ∀ c, s2 (cmInt intLt) (sVar 2) (sVal (.int 0)) c ρ Mx = .ok (.bl (intLt q 0)) Mx := fun c => (s2_ok (v2 c) (w := .int 0) rfl).trans rfl
  have a7 : ∀ c, s2 opMul (sVal (.int 31)) (sBi (b1 biInt) (lCons _ lNil)) c ρ Mx = .ok (.int (Int.mul 31 (b2i (intLt q 0)))) Mx := fun c => (s2_ok (v := .int 31) rfl ((bi1_ok (a6 c)).trans rfl)).trans rfl
  have a8 : ∀ c, s2 opAdd _ _ c ρ Mx = .ok (.int _) Mx := fun c => (s2_ok (a5 c) (a7 c)).trans rfl
  have a9 : ∀ c, s2 opAdd _ (sVal (.int 17)) c ρ Mx = .ok (.int mid) Mx := fun c => (s2_ok (a8 c) (w := .int 17) rfl).trans rfl
  refine seq_rt (ret_ok ?_)
  refine (lst3_ok (v3 _) (a9 _) (w := .int 0) rfl).trans ?_
  subst hM
  rfl
/-! ### the contract of the dice made -/
def diceS : Spec := fun as M => lc as .no fun o r => lc r .no fun t z => lc z (o.onR .no fun s => t.onI .no fun i => ic i (fun k => opt (nth M s) .no fun ob => (match ob with
  | .ro xs => yes (opt (nth xs k) true isI) (.ok (.ref (len M)) (app M [.box 0])) .no
  | .lst _ => .no | .dk _ => .no | .dt _ => .no | .box _ => .no)) fun _ => .no) fun _ _ => .no
open PySem L2 in
theorem RM.rebox {K : PySem.W.Frag} {b : Nat} {H : Hp} {μ : List Addr} {M : Mem} {o : Obj} (m : RM K b H μ (app M [o])) (hd : diceO o = true) (w : Own o) : RM K b H μ (app M [.box 0]) := by
  rw [app_eq] at m ⊢
  have at_ : ∀ {j : Nat} {u : Obj}, (M ++ [Obj.box 0])[j]? = some u → (j = M.length ∧ u = .box 0) ∨ (j < M.length ∧ (M ++ [o])[j]? = some u) := fun {j u} h => by
    rcases Nat.lt_or_ge j M.length with z | z
    · rw [List.getElem?_append_left z] at h
      exact .inr ⟨z, by rw [List.getElem?_append_left z]; exact h⟩
    · rw [List.getElem?_append_right z] at h
      cases q : j - M.length with
      | zero =>
        rw [q] at h
        have h : some (Obj.box 0) = some u := h
        cases h
        exact .inl ⟨by omega, rfl⟩
      | succ n => rw [q] at h; simp at h
  have lo : (M ++ [o])[M.length]? = some o := by rw [List.getElem?_append_right (Nat.le_refl _), Nat.sub_self]; rfl
  refine ⟨by have := m.len; rw [List.length_append] at this ⊢; exact this, fun i j c u u' h1 h2 h3 h4 w1 w2 => ?_, fun i c u h1 h2 => ?_, by have := m.base; rw [List.length_append] at this ⊢; exact this⟩
  · rcases at_ h3 with ⟨e1, _⟩ | ⟨_, g3⟩ <;> rcases at_ h4 with ⟨e3, _⟩ | ⟨_, g4⟩
    · omega
    · subst e1; exact m.nd _ j c o u' h1 h2 lo g4 w w2
    · subst e3; exact m.nd i _ c u o h1 h2 g3 lo w1 w
    · exact m.nd i j c u u' h1 h2 g3 g4 w1 w2
  · rcases at_ h2 with ⟨e1, e2⟩ | ⟨_, g2⟩
    · subst e1 e2
      obtain ⟨_, i, j, l, hH⟩ := (m.obj _ c o h1 lo).dice hd
      exact .box hH ⟨_, _, _, rfl⟩
    · exact m.obj i c u h1 g2
open PySem L2 in
theorem Ext.rebox {b : Nat} {H H' : Hp} {μ μ' : List Addr} {M : Mem} {o : Obj} (x : Ext b H μ M H' μ' (app M [o])) (w : Own o) (hl : μ.length = M.length) : Ext b H μ M H' μ' (app M [.box 0]) := by
  rw [app_eq] at x ⊢
  refine ⟨x.pre, x.keep, fun i u hi h w2 => ?_, x.frz, x.tup, x.dom, fun c hc q i u hi h => ?_⟩
  · rw [hl] at hi
    rw [List.getElem?_append_left hi] at h
    exact ⟨u, h, w2⟩
  · have q2 := x.clo c hc q
    rcases Nat.lt_or_ge i M.length with z | z
    · rw [List.getElem?_append_left z] at h
      exact q i u hi h
    · rw [List.getElem?_append_right z] at h
      cases e : i - M.length with
      | zero =>
        rw [e] at h
        have h : some (Obj.box 0) = some u := h
        cases h
        exact trivial
      | succ n => rw [e] at h; simp at h
open PySem L2 in
theorem dice_ok {K : PySem.W.Frag} {RX : Hp → List Addr → Nat → List PV → Value → Option Addr → Prop} {cf : Ev.Spec}
    (h : ∀ (M : Mem) (s : Nat) (xs : List PV) (k : Nat), nth M s = some (.ro xs) → (∀ v, xs[k]? = some v → ∃ i, v = .int i) → ∃ i j l : Int, cf [.ref s, .int (.ofNat k)] M = .ok (.ref (len M)) (app M [.lst [.int i, .int j, .int l]])) (ws : List V) (H : Hp) (Q : VK) (E : XK)
    (q : spF K RX diceS ws H Q E) : spF K RX cf ws H Q E := by
  obtain ⟨b, μ, M, as, m, r, q⟩ := q
  have two : ∃ (s k : Nat) (xs : List PV), as = [.ref s, .int (.ofNat k)] ∧ M[s]? = some (.ro xs) ∧ opt (nth xs k) true isI = true ∧ GdC K b H μ M Q (.ref (len M)) (app M [.box 0]) := by
    cases as with
    | nil => exact q.elim
    | cons o r1 => cases r1 with
      | nil => exact q.elim
      | cons t r2 => cases r2 with
        | cons _ _ => exact q.elim
        | nil => cases o with
          | ref s => cases t with
            | int i => cases i with
              | ofNat k =>
                have q : Ok (opt (nth M s) Res.no fun ob => (match ob with
                  | .ro xs => yes (opt (nth xs k) true isI) (Res.ok (PV.ref (len M)) (app M [.box 0])) Res.no
                  | .lst _ => Res.no | .dk _ => Res.no | .dt _ => Res.no | .box _ => Res.no)) (GdC K b H μ M Q) _ := q
                rw [nth_eq] at q
                cases e : M[s]? with
                | none => rw [e] at q; exact q.elim
                | some ob =>
                  rw [e] at q
                  cases ob with
                  | ro xs =>
                    obtain ⟨h1, q⟩ := yes_ok (show Ok (yes (opt (nth xs k) true isI) (Res.ok (PV.ref (len M)) (app M [.box 0])) Res.no) (GdC K b H μ M Q) _ from q)
                    exact ⟨s, k, xs, rfl, e, h1, q⟩
                  | _ => exact q.elim
              | negSucc n => exact q.elim
            | _ => exact q.elim
          | _ => exact q.elim
  obtain ⟨s, k, xs, rfl, hM, hi, q⟩ := two
  have hx : ∀ v, xs[k]? = some v → ∃ i, v = .int i := fun v e => by
    rw [nth_eq, e] at hi
    exact isI_int hi
  obtain ⟨i, j, l, e⟩ := h M s xs k (by rw [nth_eq]; exact hM) hx
  refine ⟨b, μ, M, [.ref s, .int (.ofNat k)], m, r, ?_⟩
  rw [e]
  intro V H' μ' x m' r'
  exact q V H' μ' (x.rebox trivial m.len) (m'.rebox rfl trivial) r'
end
end Ev

set_option Elab.async false
set_option linter.all false
set_option maxRecDepth 100000
set_option maxHeartbeats 1000000
/-! Sl5: from the head's facts to what stands; contracts one behind another. -/
namespace Ev
open PySem PySem.Spec PyProof.Rows L2
def conFa : Str × PV → He.Fa
  | (x, .int i) => .int x i
  | (x, .str s) => .str x (txt s)
  | (x, _) => .keep x
def conOk : Str × PV → Bool
  | (_, .int _) => true
  | (_, .str s) => s.all (fun c => decide (c < 1114112)) && decide (s.length ≤ sizeLine)
  | _ => false
def Pgm.fa (p : Pgm) : List He.Fa := (p.fns.map fun q => .glo q.1) ++ (p.fr.map .free ++ p.cons.map conFa)
def Pgm.fn (p : Pgm) : List He.DefD := p.es.map (·.d)
def chkPgm (p : Pgm) : Bool := (p.es.all fun e => chkEnt p e) && ((p.es.all fun e => e.d.dfl.isEmpty && e.d.kwd.isEmpty) && ((p.fns.all fun q => match p.es[q.2]? with | some e => decide (e.d.at_ = (q.1, none)) | none => false) && p.cons.all conOk))
theorem lookup_mem {α β : Type} [BEq α] [LawfulBEq α] {x : α} {y : β} : ∀ {l : List (α × β)}, l.lookup x = some y → (x, y) ∈ l
  | [], h => by cases h
  | (a, b) :: l, h => by
    rw [List.lookup] at h
    split at h
    · next e =>
      cases h
      obtain rfl := beq_iff_eq.mp e
      exact List.mem_cons_self
    · exact List.mem_cons_of_mem _ (lookup_mem h)
theorem stands_of {p : Pgm} {K : PySem.W.Frag} {h : Heap} {mg : Str → Option Value} (X : K.In h) (G : h.Ns mainGlobals mg) (c : He.SaysD p.fa p.fn K) (ck : chkPgm p = true) : ∃ fdOf, Stands p K mg fdOf := by
  unfold chkPgm at ck
  simp only [Bool.and_eq_true, List.all_eq_true] at ck
  obtain ⟨c1, c2, c3, c4⟩ := ck
  have fact : ∀ f ∈ p.fa, f.ok K = true := fun f hf => by
    obtain ⟨i, hi, e⟩ := List.mem_iff_getElem.mp hf
    exact c.fact i (by rw [List.getElem?_eq_getElem hi, e])
  have glo : ∀ x g, (x, g) ∈ p.fns → mg x = some (.ref (He.ga K x)) := fun x g hx => He.glo_ok X G (fact (.glo x) (List.mem_append_left _ (List.mem_map.mpr ⟨(x, g), hx, rfl⟩)))
  have ex : ∀ g : Nat, ∃ fd : FuncData, ∀ e : Ent, p.es[g]? = some e → FunD K e.d.name e.d.qual e.d.params e.d.body e.d.scope [] [] (He.fAd K e.d.at_) fd := fun g => by
    cases hg : p.es[g]? with
    | none => exact ⟨default, fun e z => by cases z⟩
    | some e =>
      obtain ⟨fd, F⟩ := c.def_ g (d := e.d) (by show (p.es.map (·.d))[g]? = _; rw [List.getElem?_map, hg]; rfl)
      refine ⟨fd, fun e' z => ?_⟩
      cases z
      have q := c2 e (List.mem_of_getElem? hg)
      rw [List.isEmpty_iff, List.isEmpty_iff] at q
      have e1 : He.DefD.dvs K e.d = [] := by unfold He.DefD.dvs; rw [q.1]; rfl
      have e2 : He.DefD.kws K e.d = [] := by unfold He.DefD.kws; rw [q.2]; rfl
      rw [e1, e2] at F
      exact F
  obtain ⟨fdOf, hf⟩ := Classical.axiomOfChoice ex
  refine ⟨fdOf, hf, fun x g hx => ?_, fun x hx => ?_, fun x v hx => ?_⟩
  · have m := lookup_mem hx
    have q := c3 _ m
    dsimp only at q
    split at q
    · next e he =>
      have q := of_decide_eq_true q
      refine ⟨e, he, ?_⟩
      rw [q]
      exact glo x g m
    · cases q
  · exact He.free_ok X G (fact (.free x) (List.mem_append_right _ (List.mem_append_left _ (List.mem_map.mpr ⟨x, hx, rfl⟩))))
  · have m := lookup_mem hx
    have q := c4 _ m
    have f := fact (conFa (x, v)) (List.mem_append_right _ (List.mem_append_right _ (List.mem_map.mpr ⟨(x, v), m, rfl⟩)))
    cases v with
    | int i =>
      obtain ⟨t, e⟩ := He.int_ok X G f
      exact ⟨_, .int i, e, ⟨t, rfl⟩, fun _ _ => .int i⟩
    | str s =>
      obtain ⟨t, e⟩ := He.str_ok X G f
      have q : (s.all (fun c => decide (c < 1114112)) && decide (s.length ≤ sizeLine)) = true := q
      simp only [Bool.and_eq_true, List.all_eq_true, decide_eq_true_eq] at q
      exact ⟨_, .str (txt s), e, ⟨t, rfl⟩, fun _ _ => .str s q⟩
    | _ => cases q
/-! ### contracts -/
noncomputable section
def upS (S : Nat → Option Spec) (g0 : Nat) (s0 : Spec) : Nat → Option Spec := fun g => yes (Nat.beq g g0) (some s0) (S g)
def noS : Nat → Option Spec := fun _ => none
def noRX : Hp → List Addr → Nat → List PV → Value → Option Addr → Prop := fun _ _ _ _ _ _ => False
end
section
variable {P : Program} {w : World} {K : PySem.W.Frag} {mg : Str → Option Value} {base : Heap} {p : Pgm} {fdOf : Nat → FuncData}
/-- the contracts hold at the level k -/
def Hold (P : Program) (w : World) (K : PySem.W.Frag) (mg : Str → Option Value) (base : Heap) (p : Pgm) (fdOf : Nat → FuncData) (k : Nat) (S : Nat → Option Spec) : Prop :=
  ∀ (g : Nat) (e : Ent) (s : Spec), p.es[g]? = some e → S g = some s → FnG P w K mg base noCX k (He.fAd K e.d.at_) (fdOf g) e.ps (spF K noRX s)
theorem Hold.nil : Hold P w K mg base p fdOf 0 noS := fun g e s _ h => by cases h
theorem Hold.all {Pf : Nat → Option Fn} {k : Nat} {S : Nat → Option Spec} (h : Hold P w K mg base p fdOf k S) (hP : ∀ (g : Nat) (e : Ent), p.es[g]? = some e → Pf g = some e.fn) (ck : chkPgm p = true) (st : Stands p K mg fdOf) (n g : Nat) (e : Ent) (he : p.es[g]? = some e) :
    FnG P w K mg base noCX (k + n) (He.fAd K e.d.at_) (fdOf g) e.ps (spF K noRX (callF Pf S n g)) := by
  refine okFn (fun _ _ _ _ _ _ _ h => h) hP (fun g e he => ?_) st h n g e he
  unfold chkPgm at ck
  simp only [Bool.and_eq_true, List.all_eq_true] at ck
  exact ck.1 e (List.mem_of_getElem? he)
theorem Hold.add {Pf : Nat → Option Fn} {k : Nat} {S : Nat → Option Spec} (h : Hold P w K mg base p fdOf k S) (hP : ∀ (g : Nat) (e : Ent), p.es[g]? = some e → Pf g = some e.fn) (ck : chkPgm p = true) (st : Stands p K mg fdOf) (n g0 : Nat) (s0 : Spec)
    (hw : ∀ ws H Q E, spF K noRX s0 ws H Q E → spF K noRX (callF Pf S n g0) ws H Q E) : Hold P w K mg base p fdOf (k + n) (upS S g0 s0) := fun g e s he hs => by
  have hs : yes (Nat.beq g g0) (some s0) (S g) = some s := hs
  cases b : Nat.beq g g0 with
  | true =>
    rw [b] at hs
    cases hs
    obtain rfl := Nat.eq_of_beq_eq_true b
    exact fnG_weak (h.all hP ck st n g e he) hw
  | false =>
    rw [b] at hs
    exact fnG_mono (Nat.le_add_right _ _) (h g e s he hs)
end
theorem prog_at {Pf : Nat → Option Fn} {prog : List Fn} {p : Pgm} (h1 : Pf = fun g => nth prog g) (h2 : prog = p.es.map Ent.fn) (g : Nat) (e : Ent) (he : p.es[g]? = some e) : Pf g = some e.fn := by
  rw [h1]
  show nth prog g = _
  rw [nth_eq, h2, List.getElem?_map, he]
  rfl
theorem prog_at2 {Pf : Nat → Option Fn} {prog : List Fn} {p : Pgm} (n : Nat) (h1 : (List.range n).map Pf = prog.map some) (h2 : prog = p.es.map Ent.fn) (g : Nat) (e : Ent) (he : p.es[g]? = some e) : Pf g = some e.fn := by
  have hl : n = p.es.length := by have := congrArg List.length h1; rw [List.length_map, List.length_range, List.length_map, h2, List.length_map] at this; exact this
  have hg : g < n := by rw [hl]; exact (List.getElem?_eq_some_iff.mp he).1
  have e1 : ((List.range n).map Pf)[g]? = some (Pf g) := by rw [List.getElem?_map, List.getElem?_range hg]; rfl
  rw [h1, h2, List.getElem?_map, List.getElem?_map, he] at e1
  exact (Option.some.inj e1).symm
/-! ### the law's answer -/
noncomputable section
def isT (r : Res PV) : Bool := Res.rec (motive := fun _ => Bool) (fun v _ => v.onB false fun k => k) (fun _ _ _ => false) false (fun n _ ih => allN n ih) r
end
theorem isT_ok {r : Res PV} (h : isT r = true) : Ok r (fun v _ => v = .bl true) fun _ _ _ => False := by
  induction r with
  | ok v M =>
    cases v with
    | bl k => cases k with
      | true => exact rfl
      | false => cases h
    | _ => cases h
  | ch n f ih => exact fun i hi => ih i (allN_all (f := fun i => isT (f i)) h i hi)
  | _ => cases h
end Ev

set_option Elab.async false
set_option linter.all false
set_option maxRecDepth 100000
set_option maxHeartbeats 1000000
/-! Sl6: more contracts: functions of one table, by a tree of tables. -/
namespace Ev
open PySem PySem.Spec PyProof.Rows L2
/-- a tree of tables, told by their numbers, with results -/
inductive BT where
  | lf | nd (k : Nat) (w : PV) (l r : BT)
noncomputable section
def BT.find (k : Nat) (t : BT) : Option PV := BT.rec (motive := fun _ => Option PV) none (fun m w _ _ il ir => yes (Nat.beq k m) (some w) (yes (Nat.ble m k) ir il)) t
def BT.all (p : Nat → PV → Bool) (t : BT) : Bool := BT.rec (motive := fun _ => Bool) true (fun m w _ _ il ir => yes (p m w) (yes il ir false) false) t
theorem BT.find_all {p : Nat → PV → Bool} {k : Nat} {w : PV} : ∀ {t : BT}, t.all p = true → t.find k = some w → p k w = true
  | .lf, _, h => by cases h
  | .nd m u l r, a, h => by
    have a : yes (p m u) (yes (l.all p) (r.all p) false) false = true := a
    obtain ⟨a1, a⟩ := yesT a
    obtain ⟨a2, a3⟩ := yesT a
    have h : yes (Nat.beq k m) (some u) (yes (Nat.ble m k) (r.find k) (l.find k)) = some w := h
    cases e1 : Nat.beq k m with
    | true =>
      rw [e1] at h; cases h
      rw [Nat.eq_of_beq_eq_true e1]
      exact a1
    | false =>
      rw [e1] at h
      cases e2 : Nat.ble m k with
      | true => rw [e2] at h; exact BT.find_all a3 h
      | false => rw [e2] at h; exact BT.find_all a2 h
theorem BT.all_nd {p : Nat → PV → Bool} {m : Nat} {w : PV} {l r : BT} (h1 : p m w = true) (h2 : l.all p = true) (h3 : r.all p = true) : (BT.nd m w l r).all p = true := by
  show yes (p m w) (yes (l.all p) (r.all p) false) false = true
  rw [h1, h2, h3]
  rfl
def onN {β : Type} (v : PV) (d : β) (f : Nat → β) : β := v.onI d fun i => ic i f fun _ => d
/-- a table's number: how many things, its cells -/
def keyT (v : PV) : Nat := v.onT 0 fun l => lc l 0 fun n r => lc r 0 fun rows _ => rows.onT 0 fun rs => onN n 0 fun n => Nat.add (Nat.mul (lr 1 (fun row _ acc => row.onT acc fun cs => lr acc (fun c _ a => Nat.add (Nat.mul a 8) (onN c 7 fun n => n)) cs) rs) 8) n
/-- the table of a number -/
def decR {β : Type} (n : Nat) : Nat → (List PV → Nat → β) → β := nr (fun k f => f [] k) (fun _ ih k f => ih (Nat.div k 8) fun r q => f (.int (.ofNat (Nat.mod k 8)) :: r) q) n
def decRs {β : Type} (n m : Nat) : Nat → (List PV → Nat → β) → β := nr (fun k f => f [] k) (fun _ ih k f => decR n k fun r q => ih q fun rs q2 => f (.tup false r :: rs) q2) m
def decT (k : Nat) : PV := decRs (Nat.mod k 8) (Nat.mod k 8) (Nat.div k 8) fun rs _ => .tup false [.int (.ofNat (Nat.mod k 8)), .tup false rs]
/-- a function of one table: the tables of t with their results -/
def mapS (t : BT) : Spec := fun as M => lc as .no fun v r => lc r (opt (t.find (keyT v)) .no fun w => yes (eqT deep v (decT (keyT v))) (.ok w M) .no) fun _ _ => .no
/-- what is checked of a table -/
def mapC (cf : Spec) (k : Nat) (w : PV) : Bool := yes (clean (decT k)) (yes (clean w) (isVal w (cf [decT k] [])) false) false
theorem map_ok {K : PySem.W.Frag} {RX : Hp → List Addr → Nat → List PV → Value → Option Addr → Prop} {t : BT} {cf : Ev.Spec} (h : t.all (mapC cf) = true) (ws : List V) (H : Hp) (Q : VK) (E : XK)
    (q : spF K RX (mapS t) ws H Q E) : spF K RX cf ws H Q E := by
  obtain ⟨b, μ, M, as, m, r, q⟩ := q
  cases as with
  | nil => exact q.elim
  | cons v as => cases as with
    | cons _ _ => exact q.elim
    | nil =>
      obtain ⟨res, e, q1⟩ := opt_ok (show Ok (opt (t.find (keyT v)) .no fun w => yes (eqT deep v (decT (keyT v))) (.ok w M) .no) _ _ from q)
      obtain ⟨e2, q2⟩ := yes_ok q1
      have ev := eqT_eq e2
      have c := BT.find_all h e
      unfold mapC at c
      rw [← ev] at c
      obtain ⟨c1, c⟩ := yesT c
      obtain ⟨hr, c2⟩ := yesT c
      refine ⟨0, [], [], [v], ⟨rfl, fun i j a o o' h1 => by simp at h1, fun i a o h1 => by simp at h1, Nat.zero_le _⟩, r.moved (.cons (clean_low c1) .nil), ?_⟩
      cases e3 : cf [v] [] with
      | ok w M' =>
        rw [e3] at c2
        cases M' with
        | cons _ _ => cases c2
        | nil =>
          have ew := eqT_eq (show eqT deep w res = true from c2)
          subst ew
          intro V H' μ' x m' r'
          obtain rfl := x.mu0 m'
          obtain ⟨x2, m2⟩ := frame0 m x
          exact q2 V H' μ x2 m2 (r'.moved (clean_low hr))
      | exc => rw [e3] at c2; cases c2
      | no => rw [e3] at c2; cases c2
      | ch => rw [e3] at c2; cases c2
end
end Ev

set_option Elab.async false
set_option linter.all false
set_option maxRecDepth 100000
set_option maxHeartbeats 4000000
/-! K76d: the functions of the text, as data. Written by gen.py. -/
namespace K76
open Ev PySem L2
def top (i : Nat) : Stmt := PySem.Challenge.pw_thingturns_k76_whole_retracted_tables.main.body.getD i (.Pass ⟨0, 0, 0, 0⟩)
def d_is_whole : List S := [
  (.ret (.and (.bi (.isi [.tInt]) [(.var 0)]) (.not (.bi (.isi [.tBool]) [(.var 0)]))))]
def e_is_whole : Ent := { d := ⟨("is_whole", none), "is_whole", "is_whole", defArgs (top 7), defBody (top 7), defScope (top 7), [], []⟩, N := ["value"], ps := ["value"], ir := d_is_whole }
def d_is_within : List S := [
  (.ret (.and (.call 0 [(.var 0)]) (.chain .le .le (.var 1) (.var 0) (.var 2))))]
def e_is_within : Ent := { d := ⟨("is_within", none), "is_within", "is_within", defArgs (top 8), defBody (top 8), defScope (top 8), [], []⟩, N := ["value", "least", "most"], ps := ["value", "least", "most"], ir := d_is_within }
def d_is_pair : List S := [
  (.ret (.and (.bi (.isi [.tTup]) [(.var 0)]) (.cmp .eq (.bi .len [(.var 0)]) (.con (.int (2))))))]
def e_is_pair : Ent := { d := ⟨("is_pair", none), "is_pair", "is_pair", defArgs (top 9), defBody (top 9), defScope (top 9), [], []⟩, N := ["value"], ps := ["value"], ir := d_is_pair }
def d_key_kind : List S := [
  (.iff (.and (.bi (.isi [.tInt]) [(.var 0)]) (.not (.bi (.isi [.tBool]) [(.var 0)]))) [(.ret (.str [119, 104, 111, 108, 101]))] []),
  (.iff (.bi (.isi [.tStr]) [(.var 0)]) [(.ret (.str [115, 116, 114, 105, 110, 103]))] []),
  (.iff (.not (.bi (.isi [.tTup]) [(.var 0)])) [(.ret .non)] []),
  (.set (.name 1) (.bi (.tuple false) [(.comp (.call 3 [(.var 2)]) (.name 2) (.val (.var 0)) none [2])])),
  (.ret (.ite (.cmp .isIn .non (.var 1)) .non (.var 1)))]
def e_key_kind : Ent := { d := ⟨("key_kind", none), "key_kind", "key_kind", defArgs (top 10), defBody (top 10), defScope (top 10), [], []⟩, N := ["key", "kinds", "member"], ps := ["key"], ir := d_key_kind }
def d_sorted_keys : List S := [
  .never,
  (.ret (.ite (.and (.cmp .eq (.bi .len [(.var 1)]) (.int (1))) (.cmp .notIn .non (.var 1))) (.bi .sorted [(.var 0)]) (.bi .list [(.var 0)])))]
def e_sorted_keys : Ent := { d := ⟨("sorted_keys", none), "sorted_keys", "sorted_keys", defArgs (top 11), defBody (top 11), defScope (top 11), [], []⟩, N := ["kept", "kinds", "key"], ps := ["kept"], ir := d_sorted_keys }
def d_copied : List S := [
  (.iff (.bi (.isi [.tTup]) [(.var 0)]) [(.ret (.bi (.tuple false) [(.comp (.call 5 [(.var 1)]) (.name 1) (.val (.var 0)) none [1])]))] []),
  (.iff (.bi (.isi [.tLst]) [(.var 0)]) [(.ret (.comp (.call 5 [(.var 1)]) (.name 1) (.val (.var 0)) none [1]))] []),
  (.iff (.bi (.isi [.tDct]) [(.var 0)]) [(.ret (.dcomp false (.var 2) (.call 5 [(.idx (.var 0) (.var 2))]) (.name 2) (.val (.call 4 [(.var 0)])) none [2]))] []),
  (.ret (.var 0))]
def e_copied : Ent := { d := ⟨("copied", none), "copied", "copied", defArgs (top 12), defBody (top 12), defScope (top 12), [], []⟩, N := ["value", "member", "key"], ps := ["value"], ir := d_copied }
def d_is_row_of : List S := [
  (.ret (.and (.bi (.isi [.tTup]) [(.var 0)]) (.bi .all [(.comp (.call 1 [(.var 3), (.var 1), (.var 2)]) (.name 3) (.val (.var 0)) none [3])])))]
def e_is_row_of : Ent := { d := ⟨("is_row_of", none), "is_row_of", "is_row_of", defArgs (top 13), defBody (top 13), defScope (top 13), [], []⟩, N := ["value", "least", "most", "one"], ps := ["value", "least", "most"], ir := d_is_row_of }
def d_is_map_in : List S := [
  (.ret (.and (.call 6 [(.var 1), (.int (0)), (.bin .sub (.var 0) (.int (1)))]) (.cmp .eq (.bi .len [(.var 1)]) (.var 0))))]
def e_is_map_in : Ent := { d := ⟨("is_map_in", none), "is_map_in", "is_map_in", defArgs (top 16), defBody (top 16), defScope (top 16), [], []⟩, N := ["n", "value"], ps := ["n", "value"], ir := d_is_map_in }
def d_is_table_in : List S := [
  (.iff (.or (.not (.call 2 [(.var 0)])) (.or (.not (.call 1 [(.idx (.var 0) (.int (0))), (.int (1)), (.con (.int (6)))])) (.not (.bi (.isi [.tTup]) [(.idx (.var 0) (.int (1)))])))) [(.ret (.bl false))] []),
  (.ret (.and (.cmp .eq (.bi .len [(.idx (.var 0) (.int (1)))]) (.idx (.var 0) (.int (0)))) (.bi .all [(.comp (.call 7 [(.idx (.var 0) (.int (0))), (.var 1)]) (.name 1) (.val (.idx (.var 0) (.int (1)))) none [1])])))]
def e_is_table_in : Ent := { d := ⟨("is_table_in", none), "is_table_in", "is_table_in", defArgs (top 17), defBody (top 17), defScope (top 17), [], []⟩, N := ["value", "row"], ps := ["value"], ir := d_is_table_in }
def d_rows_in : List S := [
  (.ret (.bi .list [(.idx (.var 0) (.int (1)))]))]
def e_rows_in : Ent := { d := ⟨("rows_in", none), "rows_in", "rows_in", defArgs (top 18), defBody (top 18), defScope (top 18), [], []⟩, N := ["table"], ps := ["table"], ir := d_rows_in }
def d_require_table : List S := [
  (.iff (.not (.call 8 [(.var 0)])) [.never] [])]
def e_require_table : Ent := { d := ⟨("require_table", none), "require_table", "require_table", defArgs (top 19), defBody (top 19), defScope (top 19), [], []⟩, N := ["value"], ps := ["value"], ir := d_require_table }
def d_does_cycle : List S := [
  (.ret (.cmp .eq (.idx (.idx (.var 0) (.idx (.idx (.var 0) (.var 1)) (.var 2))) (.idx (.idx (.var 0) (.var 1)) (.var 3))) (.idx (.idx (.var 0) (.idx (.idx (.var 0) (.var 2)) (.var 1))) (.idx (.idx (.var 0) (.var 2)) (.var 3)))))]
def e_does_cycle : Ent := { d := ⟨("does_cycle", none), "does_cycle", "does_cycle", defArgs (top 21), defBody (top 21), defScope (top 21), [], []⟩, N := ["rows", "x", "y", "z"], ps := ["rows", "x", "y", "z"], ir := d_does_cycle }
def d_doubled_in : List S := [
  (.forr (.name 1) (.rng1 (.bi .len [(.var 0)])) [(.forr (.name 2) (.rng2 (.bin .add (.var 1) (.int (1))) (.bi .len [(.var 0)])) [(.iff (.cmp .eq (.idx (.var 0) (.var 1)) (.idx (.var 0) (.var 2))) [(.ret (.tup false [(.var 1), (.var 2)]))] [])])]),
  (.ret .non)]
def e_doubled_in : Ent := { d := ⟨("doubled_in", none), "doubled_in", "doubled_in", defArgs (top 22), defBody (top 22), defScope (top 22), [], []⟩, N := ["row", "y", "z"], ps := ["row"], ir := d_doubled_in }
def d_first_cycle_bar : List S := [
  (.forr (.tup [(.name 1), (.name 2)]) (.enum (.var 0)) [(.iff (.cmp .isNot (.call 12 [(.var 2)]) .non) [(.ret (.tup false [(.var 1), (.call 12 [(.var 2)])]))] [])]),
  (.forr (.name 1) (.rng1 (.bi .len [(.var 0)])) [(.forr (.name 3) (.rng1 (.bi .len [(.var 0)])) [(.set (.name 4) (.comp (.var 5) (.name 5) (.rng1 (.bi .len [(.var 0)])) (some (.not (.call 11 [(.var 0), (.var 1), (.var 3), (.var 5)]))) [5])), (.iff (.cmp .ne (.var 4) (.lst [])) [(.ret (.tup false [(.var 1), (.var 3), (.idx (.var 4) (.int (0)))]))] [])])]),
  (.ret .non)]
def e_first_cycle_bar : Ent := { d := ⟨("first_cycle_bar", none), "first_cycle_bar", "first_cycle_bar", defArgs (top 23), defBody (top 23), defScope (top 23), [], []⟩, N := ["rows", "x", "row", "y", "odd", "z"], ps := ["rows"], ir := d_first_cycle_bar }
def d_is_cycle_table_in : List S := [
  (.ret (.cmp .is (.call 13 [(.call 9 [(.var 0)])]) .non))]
def e_is_cycle_table_in : Ent := { d := ⟨("is_cycle_table_in", none), "is_cycle_table_in", "is_cycle_table_in", defArgs (top 24), defBody (top 24), defScope (top 24), [], []⟩, N := ["table"], ps := ["table"], ir := d_is_cycle_table_in }
def d_require_cycle_table : List S := [
  (.expr (.call 10 [(.var 0)])),
  (.iff (.not (.call 14 [(.var 0)])) [.never] [])]
def e_require_cycle_table : Ent := { d := ⟨("require_cycle_table", none), "require_cycle_table", "require_cycle_table", defArgs (top 25), defBody (top 25), defScope (top 25), [], []⟩, N := ["table"], ps := ["table"], ir := d_require_cycle_table }
def d_piece_from : List S := [
  (.set (.name 2) (.lst [(.var 1)])),
  (.set (.name 3) (.int (0))),
  (.whl (.cmp .lt (.var 3) (.bi .len [(.var 2)])) [(.forr (.name 4) (.val (.var 0)) [(.iff (.cmp .notIn (.idx (.var 4) (.idx (.var 2) (.var 3))) (.var 2)) [(.expr (.me .append (.var 2) [(.idx (.var 4) (.idx (.var 2) (.var 3)))]))] [])]), (.aug 3 .add (.int (1)))]),
  (.ret (.var 2))]
def e_piece_from : Ent := { d := ⟨("piece_from", none), "piece_from", "piece_from", defArgs (top 27), defBody (top 27), defScope (top 27), [], []⟩, N := ["turns", "x", "found", "at", "turn"], ps := ["turns", "x"], ir := d_piece_from }
def d_pieces_in : List S := [
  (.set (.tup [(.name 3), (.name 4)]) (.tup false [(.lst []), (.dnew false)])),
  (.forr (.name 2) (.rng1 (.var 0)) [(.iff (.cmp .notIn (.var 2) (.var 4)) [(.set (.name 5) (.bi (.tuple false) [(.bi .sorted [(.call 16 [(.var 1), (.var 2)])])])), (.expr (.me .update (.var 4) [(.dcomp false (.var 6) (.bl true) (.name 6) (.val (.var 5)) none [6])])), (.expr (.me .append (.var 3) [(.var 5)]))] [])]),
  (.ret (.var 3))]
def e_pieces_in : Ent := { d := ⟨("pieces_in", none), "pieces_in", "pieces_in", defArgs (top 28), defBody (top 28), defScope (top 28), [], []⟩, N := ["n", "turns", "x", "found", "met", "piece", "y"], ps := ["n", "turns"], ir := d_pieces_in }
def d_parting_by_keys : List S := [
  (.set (.tup [(.name 2), (.name 3)]) (.tup false [(.dnew true), (.lst [])])),
  (.forr (.name 1) (.val (.var 0)) [(.iff (.cmp .notIn (.var 1) (.var 2)) [(.put (.var 2) (.var 1) (.bi .len [(.var 2)]))] []), (.expr (.me .append (.var 3) [(.idx (.var 2) (.var 1))]))]),
  (.ret (.bi (.tuple true) [(.var 3)]))]
def e_parting_by_keys : Ent := { d := ⟨("parting_by_keys", none), "parting_by_keys", "parting_by_keys", defArgs (top 29), defBody (top 29), defScope (top 29), [], []⟩, N := ["keys", "key", "classes", "found"], ps := ["keys"], ir := d_parting_by_keys }
def d_count_classes : List S := [
  (.ret (.bin .add (.bi .max1 [(.var 0)]) (.int (1))))]
def e_count_classes : Ent := { d := ⟨("count_classes", none), "count_classes", "count_classes", defArgs (top 31), defBody (top 31), defScope (top 31), [], []⟩, N := ["parting"], ps := ["parting"], ir := d_count_classes }
def d_first_things : List S := [
  (.ret (.comp (.me .index (.var 0) [(.var 1)]) (.name 1) (.rng1 (.call 19 [(.var 0)])) none [1]))]
def e_first_things : Ent := { d := ⟨("first_things", none), "first_things", "first_things", defArgs (top 32), defBody (top 32), defScope (top 32), [], []⟩, N := ["parting", "one"], ps := ["parting"], ir := d_first_things }
def d_factor_in : List S := [
  (.set (.name 2) (.call 20 [(.var 1)])),
  (.ret (.tup false [(.bi .len [(.var 2)]), (.bi (.tuple false) [(.comp (.bi (.tuple false) [(.comp (.idx (.var 1) (.idx (.idx (.idx (.var 0) (.int (1))) (.var 3)) (.var 4))) (.name 4) (.val (.var 2)) none [4])]) (.name 3) (.val (.var 2)) none [3])])]))]
def e_factor_in : Ent := { d := ⟨("factor_in", none), "factor_in", "factor_in", defArgs (top 33), defBody (top 33), defScope (top 33), [], []⟩, N := ["table", "parting", "firsts", "x", "y"], ps := ["table", "parting"], ir := d_factor_in }
def d_row_pieces_in : List S := [
  (.ret (.call 17 [(.idx (.var 0) (.int (0))), (.call 9 [(.var 0)])]))]
def e_row_pieces_in : Ent := { d := ⟨("row_pieces_in", none), "row_pieces_in", "row_pieces_in", defArgs (top 37), defBody (top 37), defScope (top 37), [], []⟩, N := ["table"], ps := ["table"], ir := d_row_pieces_in }
def d_whole_answer_in : List S := [
  (.set (.name 1) (.call 22 [(.var 0)])),
  (.iff (.cmp .eq (.bi .len [(.var 1)]) (.int (1))) [(.ret (.tup false [(.tup false [(.con (.str [119, 104, 111, 108, 101])), (.call 5 [(.var 0)])]), (.tup false [])]))] []),
  (.ret (.tup false [(.tup false [(.con (.str [102, 97, 108, 108, 105, 110, 103])), (.call 5 [(.var 0)])]), (.idx (.var 1) (.int (0)))]))]
def e_whole_answer_in : Ent := { d := ⟨("whole_answer_in", none), "whole_answer_in", "whole_answer_in", defArgs (top 38), defBody (top 38), defScope (top 38), [], []⟩, N := ["table", "found"], ps := ["table"], ir := d_whole_answer_in }
def d_like_parting_in : List S := [
  (.ret (.call 18 [(.call 9 [(.var 0)])]))]
def e_like_parting_in : Ent := { d := ⟨("like_parting_in", none), "like_parting_in", "like_parting_in", defArgs (top 39), defBody (top 39), defScope (top 39), [], []⟩, N := ["table"], ps := ["table"], ir := d_like_parting_in }
def d_retracted_in : List S := [
  (.ret (.call 21 [(.var 0), (.call 24 [(.var 0)])]))]
def e_retracted_in : Ent := { d := ⟨("retracted_in", none), "retracted_in", "retracted_in", defArgs (top 40), defBody (top 40), defScope (top 40), [], []⟩, N := ["table"], ps := ["table"], ir := d_retracted_in }
def d_retractions_in : List S := [
  (.set (.tup [(.name 1), (.name 2)]) (.tup false [(.lst [(.var 0)]), (.call 25 [(.var 0)])])),
  (.whl (.cmp .lt (.idx (.var 2) (.int (0))) (.idx (.idx (.var 1) (.neg (.int (1)))) (.int (0)))) [(.expr (.me .append (.var 1) [(.var 2)])), (.set (.name 2) (.call 25 [(.var 2)]))]),
  (.ret (.var 1))]
def e_retractions_in : Ent := { d := ⟨("retractions_in", none), "retractions_in", "retractions_in", defArgs (top 41), defBody (top 41), defScope (top 41), [], []⟩, N := ["table", "found", "later"], ps := ["table"], ir := d_retractions_in }
def d_level_in : List S := [
  (.set (.name 1) (.call 26 [(.var 0)])),
  (.ret (.ite (.cmp .eq (.idx (.idx (.var 1) (.neg (.int (1)))) (.int (0))) (.int (1))) (.bin .sub (.bi .len [(.var 1)]) (.int (1))) .non))]
def e_level_in : Ent := { d := ⟨("level_in", none), "level_in", "level_in", defArgs (top 42), defBody (top 42), defScope (top 42), [], []⟩, N := ["table", "found"], ps := ["table"], ir := d_level_in }
def d_beside_rows : List S := [
  (.set (.tup [(.name 3), (.name 4)]) (.tup false [(.bi .len [(.var 0)]), (.bi .len [(.var 1)])])),
  (.set (.name 2) (.comp (.tupS [(.star (.val (.var 5))), (.star (.rng2 (.var 3) (.bin .add (.var 3) (.var 4))))]) (.name 5) (.val (.var 0)) none [5])),
  (.ret (.bin .add (.var 2) (.comp (.tupS [(.star (.rng1 (.var 3))), (.star (.val (.comp (.bin .add (.var 3) (.var 6)) (.name 6) (.val (.var 5)) none [6])))]) (.name 5) (.val (.var 1)) none [5])))]
def e_beside_rows : Ent := { d := ⟨("beside_rows", none), "beside_rows", "beside_rows", defArgs (top 43), defBody (top 43), defScope (top 43), [], []⟩, N := ["rows", "others", "first", "many", "more", "row", "y"], ps := ["rows", "others"], ir := d_beside_rows }
def d_require_few : List S := [
  (.iff (.cmp .gt (.bin .add (.idx (.var 0) (.int (0))) (.idx (.var 1) (.int (0)))) (.con (.int (6)))) [.never] [])]
def e_require_few : Ent := { d := ⟨("require_few", none), "require_few", "require_few", defArgs (top 44), defBody (top 44), defScope (top 44), [], []⟩, N := ["table", "other"], ps := ["table", "other"], ir := d_require_few }
def d_whole_answer : List S := [
  (.expr (.call 15 [(.var 0)])),
  (.ret (.call 23 [(.var 0)]))]
def e_whole_answer : Ent := { d := ⟨("whole_answer", none), "whole_answer", "whole_answer", defArgs (top 45), defBody (top 45), defScope (top 45), [], []⟩, N := ["table"], ps := ["table"], ir := d_whole_answer }
def d_like_parting : List S := [
  (.expr (.call 15 [(.var 0)])),
  (.ret (.call 24 [(.var 0)]))]
def e_like_parting : Ent := { d := ⟨("like_parting", none), "like_parting", "like_parting", defArgs (top 46), defBody (top 46), defScope (top 46), [], []⟩, N := ["table"], ps := ["table"], ir := d_like_parting }
def d_retracted : List S := [
  (.expr (.call 15 [(.var 0)])),
  (.ret (.call 25 [(.var 0)]))]
def e_retracted : Ent := { d := ⟨("retracted", none), "retracted", "retracted", defArgs (top 47), defBody (top 47), defScope (top 47), [], []⟩, N := ["table"], ps := ["table"], ir := d_retracted }
def d_retraction_sizes : List S := [
  (.expr (.call 15 [(.var 0)])),
  (.ret (.bi (.tuple false) [(.comp (.idx (.var 1) (.int (0))) (.name 1) (.val (.call 26 [(.var 0)])) none [1])]))]
def e_retraction_sizes : Ent := { d := ⟨("retraction_sizes", none), "retraction_sizes", "retraction_sizes", defArgs (top 48), defBody (top 48), defScope (top 48), [], []⟩, N := ["table", "one"], ps := ["table"], ir := d_retraction_sizes }
def d_level : List S := [
  (.expr (.call 15 [(.var 0)])),
  (.ret (.call 27 [(.var 0)]))]
def e_level : Ent := { d := ⟨("level", none), "level", "level", defArgs (top 49), defBody (top 49), defScope (top 49), [], []⟩, N := ["table"], ps := ["table"], ir := d_level }
def d_cycles_beside : List S := [
  (.expr (.call 15 [(.var 0)])),
  (.expr (.call 15 [(.var 1)])),
  (.expr (.call 29 [(.var 0), (.var 1)])),
  (.ret (.tup false [(.bin .add (.idx (.var 0) (.int (0))) (.idx (.var 1) (.int (0)))), (.bi (.tuple false) [(.call 28 [(.call 9 [(.var 0)]), (.call 9 [(.var 1)])])])]))]
def e_cycles_beside : Ent := { d := ⟨("cycles_beside", none), "cycles_beside", "cycles_beside", defArgs (top 50), defBody (top 50), defScope (top 50), [], []⟩, N := ["table", "other"], ps := ["table", "other"], ir := d_cycles_beside }
def d__law_dice : List S := [
  (.set (.name 2) (.ite (.cmp .lt (.var 1) (.bi .len [(.var 0)])) (.bi .int1 [(.idx (.var 0) (.var 1))]) (.bin .add (.bin .mul (.int (97)) (.var 1)) (.int (43))))),
  (.set (.name 3) (.bin .mod (.bi .max2 [(.int (0)), (.bin .sub (.bi .abs [(.var 2)]) (.bin .pow (.int (10)) (.int (17))))]) (.bin .mul (.bin .pow (.int (10)) (.int (60))) (.bin .pow (.int (10)) (.int (60)))))),
  (.ret (.lst [(.var 3), (.bin .add (.bin .add (.bin .add (.bin .mul (.bin .mod (.bi .abs [(.var 2)]) (.int (1152921504606846737))) (.int (37))) (.bin .mul (.int (859)) (.var 1))) (.bin .mul (.int (31)) (.bi .int1 [(.cmp .lt (.var 2) (.int (0)))]))) (.int (17))), (.int (0))]))]
def e__law_dice : Ent := { d := ⟨("_law_dice", none), "_law_dice", "_law_dice", defArgs (top 52), defBody (top 52), defScope (top 52), [], []⟩, N := ["script", "spot", "cell", "left"], ps := ["script", "spot"], ir := d__law_dice }
def d__law_roll : List S := [
  (.iff (.cmp .gt (.idx (.var 0) (.int (0))) (.int (0))) [(.set (.name 4) (.bin .mod (.bi .int1 [(.idx (.var 0) (.int (0)))]) (.var 1))), (.put (.var 0) (.int (0)) (.bin .fdiv (.idx (.var 0) (.int (0))) (.var 1))), (.ret (.var 4))] []),
  (.put (.var 0) (.int (2)) (.bin .add (.idx (.var 0) (.int (2))) (.int (1)))),
  (.set (.name 2) (.bin .mod (.bi .int1 [(.bin .add (.idx (.var 0) (.int (1))) (.bin .mul (.int (15486209)) (.idx (.var 0) (.int (2)))))]) (.int (2305843009213693951)))),
  (.set (.name 3) (.bin .add (.bin .mul (.bin .mod (.bi .int1 [(.bin .add (.bin .mul (.var 2) (.var 2)) (.bin .mul (.int (199)) (.idx (.var 0) (.int (2)))))]) (.int (2305843009213693907))) (.int (7368751))) (.var 2))),
  (.ret (.bin .mod (.bi .int1 [(.bin .fdiv (.var 3) (.int (65536)))]) (.var 1)))]
def e__law_roll : Ent := { d := ⟨("_law_roll", none), "_law_roll", "_law_roll", defArgs (top 53), defBody (top 53), defScope (top 53), [], []⟩, N := ["dice", "total", "one", "two", "found"], ps := ["dice", "total"], ir := d__law_roll }
def d__law_pick : List S := [
  (.ret (.idx (.var 1) (.call 37 [(.var 0), (.bi .len [(.var 1)])])))]
def e__law_pick : Ent := { d := ⟨("_law_pick", none), "_law_pick", "_law_pick", defArgs (top 54), defBody (top 54), defScope (top 54), [], []⟩, N := ["dice", "items"], ps := ["dice", "items"], ir := d__law_pick }
def d__law_mixed : List S := [
  (.set (.tup [(.name 3), (.name 4)]) (.tup false [(.bi .list [(.var 1)]), (.lst [])])),
  (.forr (.name 2) (.rng1 (.bi .len [(.var 1)])) [(.expr (.me .append (.var 4) [(.me .popAt (.var 3) [(.call 37 [(.var 0), (.bi .len [(.var 3)])])])]))]),
  (.ret (.var 4))]
def e__law_mixed : Ent := { d := ⟨("_law_mixed", none), "_law_mixed", "_law_mixed", defArgs (top 55), defBody (top 55), defScope (top 55), [], []⟩, N := ["dice", "items", "turn", "left", "found"], ps := ["dice", "items"], ir := d__law_mixed }
def d__law_ascending : List S := [
  (.ret (.bi .sorted [(.bi .dict1 [(.comp (.tup false [(.var 1), (.bl true)]) (.name 1) (.val (.var 0)) none [1])])]))]
def e__law_ascending : Ent := { d := ⟨("_law_ascending", none), "_law_ascending", "_law_ascending", defArgs (top 56), defBody (top 56), defScope (top 56), [], []⟩, N := ["items", "one"], ps := ["items"], ir := d__law_ascending }
def d__law_back : List S := [
  (.ret (.bi (.tuple false) [(.comp (.me .index (.var 0) [(.var 1)]) (.name 1) (.rng1 (.bi .len [(.var 0)])) none [1])]))]
def e__law_back : Ent := { d := ⟨("_law_back", none), "_law_back", "_law_back", defArgs (top 57), defBody (top 57), defScope (top 57), [], []⟩, N := ["one", "x"], ps := ["one"], ir := d__law_back }
def d__law_by : List S := [
  (.ret (.idx (.idx (.idx (.var 0) (.int (1))) (.var 1)) (.var 2)))]
def e__law_by : Ent := { d := ⟨("_law_by", none), "_law_by", "_law_by", defArgs (top 58), defBody (top 58), defScope (top 58), [], []⟩, N := ["table", "x", "y"], ps := ["table", "x", "y"], ir := d__law_by }
def d__law_table : List S := [
  (.ret (.tup false [(.bi .len [(.var 0)]), (.bi (.tuple false) [(.comp (.bi (.tuple false) [(.var 1)]) (.name 1) (.val (.var 0)) none [1])])]))]
def e__law_table : Ent := { d := ⟨("_law_table", none), "_law_table", "_law_table", defArgs (top 59), defBody (top 59), defScope (top 59), [], []⟩, N := ["rows", "row"], ps := ["rows"], ir := d__law_table }
def d__law_named : List S := [
  (.set (.tup [(.name 2), (.name 3)]) (.tup false [(.idx (.var 0) (.int (0))), (.call 41 [(.var 1)])])),
  (.ret (.call 43 [(.comp (.comp (.idx (.var 1) (.idx (.idx (.idx (.var 0) (.int (1))) (.idx (.var 3) (.var 4))) (.idx (.var 3) (.var 5)))) (.name 5) (.rng1 (.var 2)) none [5]) (.name 4) (.rng1 (.var 2)) none [4])]))]
def e__law_named : Ent := { d := ⟨("_law_named", none), "_law_named", "_law_named", defArgs (top 60), defBody (top 60), defScope (top 60), [], []⟩, N := ["table", "names", "n", "back", "x", "y"], ps := ["table", "names"], ir := d__law_named }
def d__law_parting_of : List S := [
  (.set (.tup [(.name 2), (.name 3)]) (.tup false [(.lst []), (.lst [])])),
  (.forr (.name 1) (.val (.var 0)) [(.iff (.cmp .notIn (.var 1) (.var 2)) [(.expr (.me .append (.var 2) [(.var 1)]))] []), (.expr (.me .append (.var 3) [(.me .index (.var 2) [(.var 1)])]))]),
  (.ret (.bi (.tuple true) [(.var 3)]))]
def e__law_parting_of : Ent := { d := ⟨("_law_parting_of", none), "_law_parting_of", "_law_parting_of", defArgs (top 61), defBody (top 61), defScope (top 61), [], []⟩, N := ["keys", "key", "met", "found"], ps := ["keys"], ir := d__law_parting_of }
def d__law_read : List S := [
  (.set (.name 1) (.bin .add (.me .index (.lst [(.int (1)), (.int (4)), (.int (9)), (.int (16)), (.int (25)), (.int (36))]) [(.bi .len [(.var 0)])]) (.int (1)))),
  (.ret (.call 43 [(.comp (.comp (.bi .int1 [(.var 3)]) (.name 3) (.val (.cut (.var 0) (some (.bin .mul (.var 1) (.var 2))) (some (.bin .add (.bin .mul (.var 1) (.var 2)) (.var 1))))) none [3]) (.name 2) (.rng1 (.var 1)) none [2])]))]
def e__law_read : Ent := { d := ⟨("_law_read", none), "_law_read", "_law_read", defArgs (top 62), defBody (top 62), defScope (top 62), [], []⟩, N := ["text", "n", "x", "sign"], ps := ["text"], ir := d__law_read }
def d__law_cycle_texts : List S := [
  (.set (.name 0) (.lst [])),
  (.set (.name 0) (.bin .add (.var 0) (.lst [(.str [48, 49, 50, 51, 48, 49, 50, 51, 48, 49, 50, 51, 48, 49, 50, 51]), (.str [48, 49, 50, 51, 48, 49, 50, 51, 48, 49, 50, 51, 48, 50, 49, 51]), (.str [48, 49, 50, 51, 48, 49, 50, 51, 48, 49, 50, 51, 49, 50, 48, 51]), (.str [48, 49, 50, 51, 48, 49, 50, 51, 48, 49, 51, 50, 48, 49, 51, 50])]))),
  (.set (.name 0) (.bin .add (.var 0) (.lst [(.str [48, 49, 50, 51, 48, 49, 50, 51, 48, 49, 51, 50, 49, 48, 51, 50]), (.str [48, 49, 50, 51, 48, 49, 50, 51, 49, 48, 50, 51, 49, 48, 50, 51]), (.str [48, 49, 50, 51, 48, 49, 50, 51, 49, 48, 51, 50, 49, 48, 51, 50]), (.str [48, 49, 50, 51, 48, 49, 51, 50, 48, 49, 51, 50, 48, 49, 51, 50])]))),
  (.set (.name 0) (.bin .add (.var 0) (.lst [(.str [48, 49, 50, 51, 48, 50, 51, 49, 48, 50, 51, 49, 48, 50, 51, 49]), (.str [48, 49, 51, 50, 48, 49, 51, 50, 48, 49, 51, 50, 48, 49, 51, 50]), (.str [48, 49, 51, 50, 48, 49, 51, 50, 49, 48, 50, 51, 49, 48, 50, 51]), (.str [48, 49, 51, 50, 48, 49, 51, 50, 49, 48, 51, 50, 49, 48, 51, 50])]))),
  (.set (.name 0) (.bin .add (.var 0) (.lst [(.str [48, 49, 51, 50, 50, 51, 49, 48, 49, 48, 50, 51, 51, 50, 48, 49]), (.str [48, 50, 51, 49, 48, 50, 51, 49, 48, 50, 51, 49, 48, 50, 51, 49]), (.str [48, 50, 51, 49, 48, 51, 49, 50, 48, 51, 49, 50, 48, 51, 49, 50]), (.str [49, 48, 50, 51, 49, 48, 50, 51, 48, 49, 51, 50, 48, 49, 51, 50])]))),
  (.set (.name 0) (.bin .add (.var 0) (.lst [(.str [49, 48, 50, 51, 49, 48, 50, 51, 48, 49, 51, 50, 49, 48, 51, 50]), (.str [49, 48, 50, 51, 49, 48, 50, 51, 49, 48, 51, 50, 49, 48, 51, 50]), (.str [49, 48, 50, 51, 50, 51, 49, 48, 51, 50, 48, 49, 48, 49, 51, 50]), (.str [49, 48, 51, 50, 49, 48, 51, 50, 49, 48, 51, 50, 49, 48, 51, 50])]))),
  (.set (.name 0) (.bin .add (.var 0) (.lst [(.str [49, 48, 51, 50, 50, 51, 48, 49, 50, 51, 48, 49, 49, 48, 51, 50]), (.str [49, 50, 51, 48, 49, 50, 51, 48, 49, 50, 51, 48, 49, 50, 51, 48]), (.str [49, 50, 51, 48, 51, 48, 49, 50, 49, 50, 51, 48, 51, 48, 49, 50])]))),
  (.ret (.var 0))]
def e__law_cycle_texts : Ent := { d := ⟨("_law_cycle_texts", none), "_law_cycle_texts", "_law_cycle_texts", defArgs (top 63), defBody (top 63), defScope (top 63), [], []⟩, N := ["found"], ps := [], ir := d__law_cycle_texts }
def d__law_cycle_table : List S := [
  (.set (.name 2) (.lst [(.lst [(.str [48])]), (.lst [(.str [48, 49, 48, 49]), (.str [49, 48, 49, 48])]), (.lst [(.str [48, 49, 50, 48, 49, 50, 48, 49, 50]), (.str [48, 49, 50, 48, 49, 50, 49, 48, 50]), (.str [48, 49, 50, 48, 50, 49, 48, 50, 49]), (.str [48, 50, 49, 48, 50, 49, 48, 50, 49]), (.str [49, 50, 48, 49, 50, 48, 49, 50, 48])])])),
  (.set (.name 3) (.call 46 [(.call 38 [(.var 0), (.idx (.bin .add (.var 2) (.lst [(.call 47 [])])) (.bin .sub (.var 1) (.int (1))))])])),
  (.ret (.call 44 [(.var 3), (.bi (.tuple true) [(.call 39 [(.var 0), (.rngT false (.rng1 (.var 1)))])])]))]
def e__law_cycle_table : Ent := { d := ⟨("_law_cycle_table", none), "_law_cycle_table", "_law_cycle_table", defArgs (top 64), defBody (top 64), defScope (top 64), [], []⟩, N := ["dice", "n", "few", "found"], ps := ["dice", "n"], ir := d__law_cycle_table }
def d__law_rows : List S := [
  (.set (.name 2) (.lst [(.tup false [])])),
  (.forr (.name 3) (.rng1 (.var 1)) [(.set (.name 4) (.lst [])), (.forr (.name 5) (.val (.var 2)) [(.expr (.me .extend (.var 4) [(.comp (.bin .add (.var 5) (.tup false [(.var 6)])) (.name 6) (.rng1 (.var 0)) none [6])]))]), (.set (.name 2) (.var 4))]),
  (.ret (.var 2))]
def e__law_rows : Ent := { d := ⟨("_law_rows", none), "_law_rows", "_law_rows", defArgs (top 65), defBody (top 65), defScope (top 65), [], []⟩, N := ["n", "s", "found", "turn", "later", "row", "x"], ps := ["n", "s"], ir := d__law_rows }
def d__law_pt_table : List S := [
  (.set (.name 2) (.comp (.me .index (.var 1) [(.var 3)]) (.name 3) (.rng1 (.bin .add (.bi .max1 [(.var 1)]) (.int (1)))) none [3])),
  (.ret (.call 43 [(.comp (.comp (.idx (.var 1) (.call 42 [(.var 0), (.var 4), (.var 5)])) (.name 5) (.val (.var 2)) none [5]) (.name 4) (.val (.var 2)) none [4])]))]
def e__law_pt_table : Ent := { d := ⟨("_law_pt_table", none), "_law_pt_table", "_law_pt_table", defArgs (top 66), defBody (top 66), defScope (top 66), [], []⟩, N := ["table", "parting", "firsts", "c", "x", "y"], ps := ["table", "parting"], ir := d__law_pt_table }
def d__law_cy_is : List S := [
  (.set (.name 1) (.idx (.var 0) (.int (0)))),
  (.iff (.cmp .ne (.comp (.var 6) (.name 6) (.val (.idx (.var 0) (.int (1)))) (some (.cmp .ne (.bi .len [(.call 40 [(.var 6)])]) (.var 1))) [6]) (.lst [])) [(.ret (.bl false))] []),
  (.forr (.tup [(.name 2), (.name 3), (.name 4)]) (.val (.call 49 [(.var 1), (.int (3))])) [(.set (.name 5) (.call 42 [(.var 0), (.call 42 [(.var 0), (.var 2), (.var 3)]), (.call 42 [(.var 0), (.var 2), (.var 4)])])), (.iff (.cmp .ne (.var 5) (.call 42 [(.var 0), (.call 42 [(.var 0), (.var 3), (.var 2)]), (.call 42 [(.var 0), (.var 3), (.var 4)])])) [(.ret (.bl false))] [])]),
  (.ret (.bl true))]
def e__law_cy_is : Ent := { d := ⟨("_law_cy_is", none), "_law_cy_is", "_law_cy_is", defArgs (top 67), defBody (top 67), defScope (top 67), [], []⟩, N := ["table", "n", "x", "y", "z", "one", "row"], ps := ["table"], ir := d__law_cy_is }
def d__law_cy_parting : List S := [
  (.ret (.call 45 [(.bi .list [(.idx (.var 0) (.int (1)))])]))]
def e__law_cy_parting : Ent := { d := ⟨("_law_cy_parting", none), "_law_cy_parting", "_law_cy_parting", defArgs (top 68), defBody (top 68), defScope (top 68), [], []⟩, N := ["table"], ps := ["table"], ir := d__law_cy_parting }
def d__law_once : List S := [
  (.ret (.call 50 [(.var 0), (.call 52 [(.var 0)])]))]
def e__law_once : Ent := { d := ⟨("_law_once", none), "_law_once", "_law_once", defArgs (top 69), defBody (top 69), defScope (top 69), [], []⟩, N := ["table"], ps := ["table"], ir := d__law_once }
def d__law_sizes : List S := [
  (.set (.tup [(.name 1), (.name 2)]) (.tup false [(.lst [(.idx (.var 0) (.int (0)))]), (.call 53 [(.var 0)])])),
  (.whl (.cmp .lt (.idx (.var 2) (.int (0))) (.idx (.var 1) (.neg (.int (1))))) [(.expr (.me .append (.var 1) [(.idx (.var 2) (.int (0)))])), (.set (.name 2) (.call 53 [(.var 2)]))]),
  (.ret (.var 1))]
def e__law_sizes : Ent := { d := ⟨("_law_sizes", none), "_law_sizes", "_law_sizes", defArgs (top 70), defBody (top 70), defScope (top 70), [], []⟩, N := ["table", "found", "here"], ps := ["table"], ir := d__law_sizes }
def d__law_right : List S := [
  (.set (.name 1) (.call 48 [(.var 0), (.bin .add (.int (1)) (.call 37 [(.var 0), (.int (4))]))])),
  (.iff (.cmp .eq (.call 37 [(.var 0), (.int (4))]) (.int (0))) [(.set (.name 1) (.call 35 [(.var 1), (.call 48 [(.var 0), (.bin .add (.int (1)) (.call 37 [(.var 0), (.ite (.cmp .gt (.idx (.var 1) (.int (0))) (.int (2))) (.bin .sub (.int (6)) (.idx (.var 1) (.int (0)))) (.int (4)))]))])]))] []),
  (.set (.tup [(.name 4), (.name 5)]) (.tup false [(.call 52 [(.var 1)]), (.call 53 [(.var 1)])])),
  (.iff (.cmpR true (.lst [(.call 31 [(.var 1)]), (.call 32 [(.var 1)])]) (.lst [(.var 4), (.var 5)])) [(.ret (.bl false))] []),
  (.iff (.not (.call 51 [(.var 5)])) [(.ret (.bl false))] []),
  (.iff (.and (.cmp .eq (.idx (.idx (.call 30 [(.var 1)]) (.int (0))) (.int (0))) (.str [119, 104, 111, 108, 101])) (.cmp .ne (.idx (.idx (.call 30 [(.var 5)]) (.int (0))) (.int (0))) (.str [119, 104, 111, 108, 101]))) [(.ret (.bl false))] []),
  (.set (.name 2) (.call 54 [(.var 1)])),
  (.iff (.cmpR true (.call 33 [(.var 1)]) (.bi (.tuple false) [(.var 2)])) [(.ret (.bl false))] []),
  (.iff (.cmpR true (.call 34 [(.var 1)]) (.ite (.cmp .eq (.idx (.var 2) (.neg (.int (1)))) (.int (1))) (.bin .sub (.bi .len [(.var 2)]) (.int (1))) .non)) [(.ret (.bl false))] []),
  (.forr (.name 3) (.rng1 (.idx (.var 1) (.int (0)))) [(.forr (.name 6) (.rng1 (.idx (.var 1) (.int (0)))) [(.iff (.cmp .ne (.idx (.var 4) (.call 42 [(.var 1), (.var 3), (.var 6)])) (.call 42 [(.var 5), (.idx (.var 4) (.var 3)), (.idx (.var 4) (.var 6))])) [(.ret (.bl false))] [])])]),
  (.ret (.bl true))]
def e__law_right : Ent := { d := ⟨("_law_right", none), "_law_right", "_law_right", defArgs (top 71), defBody (top 71), defScope (top 71), [], []⟩, N := ["dice", "table", "sizes", "x", "parting", "small", "y"], ps := ["dice"], ir := d__law_right }
def d_law : List S := [
  (.forr (.name 1) (.rng1 (.bi .max2 [(.int (1)), (.bi .min2 [(.int (5)), (.bi .len [(.var 0)])])])) [(.set (.name 3) (.call 36 [(.var 0), (.var 1)])), (.forr (.name 4) (.rng1 (.int (6))) [(.iff (.not (.call 55 [(.var 3)])) [(.ret (.bl false))] [])])]),
  (.set (.tup [(.name 5), (.name 6), (.name 7)]) (.tup false [(.call 46 [(.str [48, 49, 50, 48, 49, 50, 49, 48, 50])]), (.call 46 [(.str [49, 48, 49, 48])]), (.call 46 [(.str [48, 49, 51, 50, 50, 51, 49, 48, 49, 48, 50, 51, 51, 50, 48, 49])])])),
  (.set (.name 2) (.lst [(.call 31 [(.var 5)]), (.call 32 [(.var 5)]), (.call 33 [(.var 5)]), (.call 34 [(.var 5)]), (.call 34 [(.var 7)]), (.call 33 [(.var 7)])])),
  (.set (.name 2) (.bin .add (.var 2) (.lst [(.call 34 [(.tup false [(.int (1)), (.tup false [(.tup false [(.int (0))])])])]), (.call 32 [(.var 6)]), (.call 34 [(.var 6)]), (.call 33 [(.tup false [(.int (1)), (.tup false [(.tup false [(.int (0))])])])])]))),
  (.ret (.cmp .eq (.var 2) (.lst [(.tup false [(.int (0)), (.int (0)), (.int (1))]), (.call 46 [(.str [48, 49, 48, 49])]), (.tup false [(.int (3)), (.int (2)), (.int (1))]), (.int (2)), .non, (.tup false [(.int (4))]), (.int (0)), (.tup false [(.int (1)), (.tup false [(.tup false [(.int (0))])])]), (.int (1)), (.tup false [(.int (1))])])))]
def e_law : Ent := { d := ⟨("law", none), "law", "law", defArgs (top 72), defBody (top 72), defScope (top 72), [], []⟩, N := ["script", "spot", "told", "dice", "turn", "mix", "swap", "far"], ps := ["script"], ir := d_law }
def es0 : List Ent := [e_is_whole, e_is_within, e_is_pair, e_key_kind, e_sorted_keys, e_copied, e_is_row_of, e_is_map_in, e_is_table_in, e_rows_in, e_require_table, e_does_cycle, e_doubled_in, e_first_cycle_bar, e_is_cycle_table_in, e_require_cycle_table, e_piece_from, e_pieces_in, e_parting_by_keys, e_count_classes, e_first_things, e_factor_in, e_row_pieces_in, e_whole_answer_in, e_like_parting_in, e_retracted_in, e_retractions_in, e_level_in, e_beside_rows, e_require_few, e_whole_answer, e_like_parting, e_retracted, e_retraction_sizes, e_level]
def es1 : List Ent := [e_cycles_beside, e__law_dice, e__law_roll, e__law_pick, e__law_mixed, e__law_ascending, e__law_back, e__law_by, e__law_table, e__law_named, e__law_parting_of, e__law_read, e__law_cycle_texts, e__law_cycle_table, e__law_rows, e__law_pt_table, e__law_cy_is, e__law_cy_parting, e__law_once, e__law_sizes, e__law_right, e_law]
def es : List Ent := es0 ++ es1
def fns0 : List (Str × Nat) := [(("is_whole" : Str), 0), (("is_within" : Str), 1), (("is_pair" : Str), 2), (("key_kind" : Str), 3), (("sorted_keys" : Str), 4), (("copied" : Str), 5), (("is_row_of" : Str), 6), (("is_map_in" : Str), 7), (("is_table_in" : Str), 8), (("rows_in" : Str), 9), (("require_table" : Str), 10), (("does_cycle" : Str), 11), (("doubled_in" : Str), 12), (("first_cycle_bar" : Str), 13), (("is_cycle_table_in" : Str), 14), (("require_cycle_table" : Str), 15), (("piece_from" : Str), 16), (("pieces_in" : Str), 17), (("parting_by_keys" : Str), 18), (("count_classes" : Str), 19), (("first_things" : Str), 20), (("factor_in" : Str), 21), (("row_pieces_in" : Str), 22), (("whole_answer_in" : Str), 23), (("like_parting_in" : Str), 24), (("retracted_in" : Str), 25), (("retractions_in" : Str), 26), (("level_in" : Str), 27), (("beside_rows" : Str), 28), (("require_few" : Str), 29), (("whole_answer" : Str), 30), (("like_parting" : Str), 31), (("retracted" : Str), 32), (("retraction_sizes" : Str), 33), (("level" : Str), 34)]
def fns1 : List (Str × Nat) := [(("cycles_beside" : Str), 35), (("_law_dice" : Str), 36), (("_law_roll" : Str), 37), (("_law_pick" : Str), 38), (("_law_mixed" : Str), 39), (("_law_ascending" : Str), 40), (("_law_back" : Str), 41), (("_law_by" : Str), 42), (("_law_table" : Str), 43), (("_law_named" : Str), 44), (("_law_parting_of" : Str), 45), (("_law_read" : Str), 46), (("_law_cycle_texts" : Str), 47), (("_law_cycle_table" : Str), 48), (("_law_rows" : Str), 49), (("_law_pt_table" : Str), 50), (("_law_cy_is" : Str), 51), (("_law_cy_parting" : Str), 52), (("_law_once" : Str), 53), (("_law_sizes" : Str), 54), (("_law_right" : Str), 55), (("law" : Str), 56)]
def fns : List (Str × Nat) := fns0 ++ fns1
def fr0 : List Str := ["abs", "all", "bool", "dict", "enumerate", "int", "isinstance", "len", "list", "max", "min", "range", "repr", "sorted", "str", "tuple"]
def fr : List Str := fr0
def cons0 : List (Str × PV) := [(("FALLING" : Str), (.str [102, 97, 108, 108, 105, 110, 103])), (("MOST_THINGS" : Str), (.int (6))), (("PAIR_SIZE" : Str), (.int (2))), (("WHOLE" : Str), (.str [119, 104, 111, 108, 101]))]
def cons : List (Str × PV) := cons0
def pg : Pgm := ⟨es, fns, fr, cons⟩
end K76

set_option Elab.async false
set_option linter.all false
set_option maxRecDepth 100000
set_option maxHeartbeats 4000000
/-! K76s: the same as terms that run. Written by gen.py. -/
namespace K76
open Ev PySem L2
noncomputable section
def f_is_whole : Fn := ⟨1, 1, (tSeq (tRet (sAnd (sBi (b1 (biIsi [.tInt])) (lCons (sVar 0) lNil)) (s1 notV (sBi (b1 (biIsi [.tBool])) (lCons (sVar 0) lNil))))) tNil)⟩
def f_is_within : Fn := ⟨3, 3, (tSeq (tRet (sAnd (sCall 0 (lCons (sVar 0) lNil)) (sChain (cmInt intLe) (cmInt intLe) (sVar 1) (sVar 0) (sVar 2)))) tNil)⟩
def f_is_pair : Fn := ⟨1, 1, (tSeq (tRet (sAnd (sBi (b1 (biIsi [.tTup])) (lCons (sVar 0) lNil)) (s2 cmEq (sBi (b1 biLen) (lCons (sVar 0) lNil)) (sVal (.int (2)))))) tNil)⟩
def f_key_kind : Fn := ⟨1, 3, (tSeq (tIf (sAnd (sBi (b1 (biIsi [.tInt])) (lCons (sVar 0) lNil)) (s1 notV (sBi (b1 (biIsi [.tBool])) (lCons (sVar 0) lNil)))) (tSeq (tRet (sVal (.str [119, 104, 111, 108, 101]))) tNil) tNil) (tSeq (tIf (sBi (b1 (biIsi [.tStr])) (lCons (sVar 0) lNil)) (tSeq (tRet (sVal (.str [115, 116, 114, 105, 110, 103]))) tNil) tNil) (tSeq (tIf (s1 notV (sBi (b1 (biIsi [.tTup])) (lCons (sVar 0) lNil))) (tSeq (tRet (sVal .non)) tNil) tNil) (tSeq (tSet (gName 1) (sBi (b1 (biTuple false)) (lCons (sComp (sCall 3 (lCons (sVar 2) lNil)) (gName 2) (iVal (sVar 0)) bYes [2]) lNil))) (tSeq (tRet (sIte (s2 cmIn (sVal .non) (sVar 1)) (sVal .non) (sVar 1))) tNil)))))⟩
def f_sorted_keys : Fn := ⟨1, 3, (tSeq tNo (tSeq (tRet (sIte (sAnd (s2 cmEq (sBi (b1 biLen) (lCons (sVar 1) lNil)) (sVal (.int (1)))) (s2 cmNotIn (sVal .non) (sVar 1))) (sBi (b1 biSorted) (lCons (sVar 0) lNil)) (sBi (b1 biList) (lCons (sVar 0) lNil)))) tNil))⟩
def f_copied : Fn := ⟨1, 3, (tSeq (tIf (sBi (b1 (biIsi [.tTup])) (lCons (sVar 0) lNil)) (tSeq (tRet (sBi (b1 (biTuple false)) (lCons (sComp (sCall 5 (lCons (sVar 1) lNil)) (gName 1) (iVal (sVar 0)) bYes [1]) lNil))) tNil) tNil) (tSeq (tIf (sBi (b1 (biIsi [.tLst])) (lCons (sVar 0) lNil)) (tSeq (tRet (sComp (sCall 5 (lCons (sVar 1) lNil)) (gName 1) (iVal (sVar 0)) bYes [1])) tNil) tNil) (tSeq (tIf (sBi (b1 (biIsi [.tDct])) (lCons (sVar 0) lNil)) (tSeq (tRet (sDcomp false (sVar 2) (sCall 5 (lCons (s2 evIdx (sVar 0) (sVar 2)) lNil)) (gName 2) (iVal (sCall 4 (lCons (sVar 0) lNil))) bYes [2])) tNil) tNil) (tSeq (tRet (sVar 0)) tNil))))⟩
def f_is_row_of : Fn := ⟨3, 4, (tSeq (tRet (sAnd (sBi (b1 (biIsi [.tTup])) (lCons (sVar 0) lNil)) (sBi (b1 biAll) (lCons (sComp (sCall 1 (lCons (sVar 3) (lCons (sVar 1) (lCons (sVar 2) lNil)))) (gName 3) (iVal (sVar 0)) bYes [3]) lNil)))) tNil)⟩
def f_is_map_in : Fn := ⟨2, 2, (tSeq (tRet (sAnd (sCall 6 (lCons (sVar 1) (lCons (sVal (.int (0))) (lCons (s2 opSub (sVar 0) (sVal (.int (1)))) lNil)))) (s2 cmEq (sBi (b1 biLen) (lCons (sVar 1) lNil)) (sVar 0)))) tNil)⟩
def f_is_table_in : Fn := ⟨1, 2, (tSeq (tIf (sOr (s1 notV (sCall 2 (lCons (sVar 0) lNil))) (sOr (s1 notV (sCall 1 (lCons (s2 evIdx (sVar 0) (sVal (.int (0)))) (lCons (sVal (.int (1))) (lCons (sVal (.int (6))) lNil))))) (s1 notV (sBi (b1 (biIsi [.tTup])) (lCons (s2 evIdx (sVar 0) (sVal (.int (1)))) lNil))))) (tSeq (tRet (sVal (.bl false))) tNil) tNil) (tSeq (tRet (sAnd (s2 cmEq (sBi (b1 biLen) (lCons (s2 evIdx (sVar 0) (sVal (.int (1)))) lNil)) (s2 evIdx (sVar 0) (sVal (.int (0))))) (sBi (b1 biAll) (lCons (sComp (sCall 7 (lCons (s2 evIdx (sVar 0) (sVal (.int (0)))) (lCons (sVar 1) lNil))) (gName 1) (iVal (s2 evIdx (sVar 0) (sVal (.int (1))))) bYes [1]) lNil)))) tNil))⟩
def f_rows_in : Fn := ⟨1, 1, (tSeq (tRet (sBi (b1 biList) (lCons (s2 evIdx (sVar 0) (sVal (.int (1)))) lNil))) tNil)⟩
def f_require_table : Fn := ⟨1, 1, (tSeq (tIf (s1 notV (sCall 8 (lCons (sVar 0) lNil))) (tSeq tNo tNil) tNil) tNil)⟩
def f_does_cycle : Fn := ⟨4, 4, (tSeq (tRet (s2 cmEq (s2 evIdx (s2 evIdx (sVar 0) (s2 evIdx (s2 evIdx (sVar 0) (sVar 1)) (sVar 2))) (s2 evIdx (s2 evIdx (sVar 0) (sVar 1)) (sVar 3))) (s2 evIdx (s2 evIdx (sVar 0) (s2 evIdx (s2 evIdx (sVar 0) (sVar 2)) (sVar 1))) (s2 evIdx (s2 evIdx (sVar 0) (sVar 2)) (sVar 3))))) tNil)⟩
def f_doubled_in : Fn := ⟨1, 3, (tSeq (tFor (gName 1) (iRng1 (sBi (b1 biLen) (lCons (sVar 0) lNil))) (tSeq (tFor (gName 2) (iRng2 (s2 opAdd (sVar 1) (sVal (.int (1)))) (sBi (b1 biLen) (lCons (sVar 0) lNil))) (tSeq (tIf (s2 cmEq (s2 evIdx (sVar 0) (sVar 1)) (s2 evIdx (sVar 0) (sVar 2))) (tSeq (tRet (sTup false (lCons (sVar 1) (lCons (sVar 2) lNil)))) tNil) tNil) tNil)) tNil)) (tSeq (tRet (sVal .non)) tNil))⟩
def f_first_cycle_bar : Fn := ⟨1, 6, (tSeq (tFor (gTup 2 (glCons (gName 1) (glCons (gName 2) glNil))) (iEnum (sVar 0)) (tSeq (tIf (s2 cmIsNot (sCall 12 (lCons (sVar 2) lNil)) (sVal .non)) (tSeq (tRet (sTup false (lCons (sVar 1) (lCons (sCall 12 (lCons (sVar 2) lNil)) lNil)))) tNil) tNil) tNil)) (tSeq (tFor (gName 1) (iRng1 (sBi (b1 biLen) (lCons (sVar 0) lNil))) (tSeq (tFor (gName 3) (iRng1 (sBi (b1 biLen) (lCons (sVar 0) lNil))) (tSeq (tSet (gName 4) (sComp (sVar 5) (gName 5) (iRng1 (sBi (b1 biLen) (lCons (sVar 0) lNil))) (bIf (s1 notV (sCall 11 (lCons (sVar 0) (lCons (sVar 1) (lCons (sVar 3) (lCons (sVar 5) lNil))))))) [5])) (tSeq (tIf (s2 cmNe (sVar 4) (sLst lNil)) (tSeq (tRet (sTup false (lCons (sVar 1) (lCons (sVar 3) (lCons (s2 evIdx (sVar 4) (sVal (.int (0)))) lNil))))) tNil) tNil) tNil))) tNil)) (tSeq (tRet (sVal .non)) tNil)))⟩
def f_is_cycle_table_in : Fn := ⟨1, 1, (tSeq (tRet (s2 cmIs (sCall 13 (lCons (sCall 9 (lCons (sVar 0) lNil)) lNil)) (sVal .non))) tNil)⟩
def f_require_cycle_table : Fn := ⟨1, 1, (tSeq (tExpr (sCall 10 (lCons (sVar 0) lNil))) (tSeq (tIf (s1 notV (sCall 14 (lCons (sVar 0) lNil))) (tSeq tNo tNil) tNil) tNil))⟩
def f_piece_from : Fn := ⟨2, 5, (tSeq (tSet (gName 2) (sLst (lCons (sVar 1) lNil))) (tSeq (tSet (gName 3) (sVal (.int (0)))) (tSeq (tWhl (s2 (cmInt intLt) (sVar 3) (sBi (b1 biLen) (lCons (sVar 2) lNil))) (tSeq (tFor (gName 4) (iVal (sVar 0)) (tSeq (tIf (s2 cmNotIn (s2 evIdx (sVar 4) (s2 evIdx (sVar 2) (sVar 3))) (sVar 2)) (tSeq (tExpr (sMe (meKd .append) (evMe .append) (sVar 2) (lCons (s2 evIdx (sVar 4) (s2 evIdx (sVar 2) (sVar 3))) lNil))) tNil) tNil) tNil)) (tSeq (tAug 3 .add (sVal (.int (1)))) tNil))) (tSeq (tRet (sVar 2)) tNil))))⟩
def f_pieces_in : Fn := ⟨2, 7, (tSeq (tSet (gTup 2 (glCons (gName 3) (glCons (gName 4) glNil))) (sTup false (lCons (sLst lNil) (lCons (sDnew false) lNil)))) (tSeq (tFor (gName 2) (iRng1 (sVar 0)) (tSeq (tIf (s2 cmNotIn (sVar 2) (sVar 4)) (tSeq (tSet (gName 5) (sBi (b1 (biTuple false)) (lCons (sBi (b1 biSorted) (lCons (sCall 16 (lCons (sVar 1) (lCons (sVar 2) lNil))) lNil)) lNil))) (tSeq (tExpr (sMe (meKd .update) (evMe .update) (sVar 4) (lCons (sDcomp false (sVar 6) (sVal (.bl true)) (gName 6) (iVal (sVar 5)) bYes [6]) lNil))) (tSeq (tExpr (sMe (meKd .append) (evMe .append) (sVar 3) (lCons (sVar 5) lNil))) tNil))) tNil) tNil)) (tSeq (tRet (sVar 3)) tNil)))⟩
def f_parting_by_keys : Fn := ⟨1, 4, (tSeq (tSet (gTup 2 (glCons (gName 2) (glCons (gName 3) glNil))) (sTup false (lCons (sDnew true) (lCons (sLst lNil) lNil)))) (tSeq (tFor (gName 1) (iVal (sVar 0)) (tSeq (tIf (s2 cmNotIn (sVar 1) (sVar 2)) (tSeq (tPut (sVar 2) (sVar 1) (sBi (b1 biLen) (lCons (sVar 2) lNil))) tNil) tNil) (tSeq (tExpr (sMe (meKd .append) (evMe .append) (sVar 3) (lCons (s2 evIdx (sVar 2) (sVar 1)) lNil))) tNil))) (tSeq (tRet (sBi (b1 (biTuple true)) (lCons (sVar 3) lNil))) tNil)))⟩
def f_count_classes : Fn := ⟨1, 1, (tSeq (tRet (s2 opAdd (sBi (b1 biMax) (lCons (sVar 0) lNil)) (sVal (.int (1))))) tNil)⟩
def f_first_things : Fn := ⟨1, 2, (tSeq (tRet (sComp (sMe (meKd .index) (evMe .index) (sVar 0) (lCons (sVar 1) lNil)) (gName 1) (iRng1 (sCall 19 (lCons (sVar 0) lNil))) bYes [1])) tNil)⟩
def f_factor_in : Fn := ⟨2, 5, (tSeq (tSet (gName 2) (sCall 20 (lCons (sVar 1) lNil))) (tSeq (tRet (sTup false (lCons (sBi (b1 biLen) (lCons (sVar 2) lNil)) (lCons (sBi (b1 (biTuple false)) (lCons (sComp (sBi (b1 (biTuple false)) (lCons (sComp (s2 evIdx (sVar 1) (s2 evIdx (s2 evIdx (s2 evIdx (sVar 0) (sVal (.int (1)))) (sVar 3)) (sVar 4))) (gName 4) (iVal (sVar 2)) bYes [4]) lNil)) (gName 3) (iVal (sVar 2)) bYes [3]) lNil)) lNil)))) tNil))⟩
def f_row_pieces_in : Fn := ⟨1, 1, (tSeq (tRet (sCall 17 (lCons (s2 evIdx (sVar 0) (sVal (.int (0)))) (lCons (sCall 9 (lCons (sVar 0) lNil)) lNil)))) tNil)⟩
def f_whole_answer_in : Fn := ⟨1, 2, (tSeq (tSet (gName 1) (sCall 22 (lCons (sVar 0) lNil))) (tSeq (tIf (s2 cmEq (sBi (b1 biLen) (lCons (sVar 1) lNil)) (sVal (.int (1)))) (tSeq (tRet (sTup false (lCons (sTup false (lCons (sVal (.str [119, 104, 111, 108, 101])) (lCons (sCall 5 (lCons (sVar 0) lNil)) lNil))) (lCons (sTup false lNil) lNil)))) tNil) tNil) (tSeq (tRet (sTup false (lCons (sTup false (lCons (sVal (.str [102, 97, 108, 108, 105, 110, 103])) (lCons (sCall 5 (lCons (sVar 0) lNil)) lNil))) (lCons (s2 evIdx (sVar 1) (sVal (.int (0)))) lNil)))) tNil)))⟩
def f_like_parting_in : Fn := ⟨1, 1, (tSeq (tRet (sCall 18 (lCons (sCall 9 (lCons (sVar 0) lNil)) lNil))) tNil)⟩
def f_retracted_in : Fn := ⟨1, 1, (tSeq (tRet (sCall 21 (lCons (sVar 0) (lCons (sCall 24 (lCons (sVar 0) lNil)) lNil)))) tNil)⟩
def f_retractions_in : Fn := ⟨1, 3, (tSeq (tSet (gTup 2 (glCons (gName 1) (glCons (gName 2) glNil))) (sTup false (lCons (sLst (lCons (sVar 0) lNil)) (lCons (sCall 25 (lCons (sVar 0) lNil)) lNil)))) (tSeq (tWhl (s2 (cmInt intLt) (s2 evIdx (sVar 2) (sVal (.int (0)))) (s2 evIdx (s2 evIdx (sVar 1) (s1 negV (sVal (.int (1))))) (sVal (.int (0))))) (tSeq (tExpr (sMe (meKd .append) (evMe .append) (sVar 1) (lCons (sVar 2) lNil))) (tSeq (tSet (gName 2) (sCall 25 (lCons (sVar 2) lNil))) tNil))) (tSeq (tRet (sVar 1)) tNil)))⟩
def f_level_in : Fn := ⟨1, 2, (tSeq (tSet (gName 1) (sCall 26 (lCons (sVar 0) lNil))) (tSeq (tRet (sIte (s2 cmEq (s2 evIdx (s2 evIdx (sVar 1) (s1 negV (sVal (.int (1))))) (sVal (.int (0)))) (sVal (.int (1)))) (s2 opSub (sBi (b1 biLen) (lCons (sVar 1) lNil)) (sVal (.int (1)))) (sVal .non))) tNil))⟩
def f_beside_rows : Fn := ⟨2, 7, (tSeq (tSet (gTup 2 (glCons (gName 3) (glCons (gName 4) glNil))) (sTup false (lCons (sBi (b1 biLen) (lCons (sVar 0) lNil)) (lCons (sBi (b1 biLen) (lCons (sVar 1) lNil)) lNil)))) (tSeq (tSet (gName 2) (sComp (sTupS (lStar (iVal (sVar 5)) (lStar (iRng2 (sVar 3) (s2 opAdd (sVar 3) (sVar 4))) lNil))) (gName 5) (iVal (sVar 0)) bYes [5])) (tSeq (tRet (s2 opAdd (sVar 2) (sComp (sTupS (lStar (iRng1 (sVar 3)) (lStar (iVal (sComp (s2 opAdd (sVar 3) (sVar 6)) (gName 6) (iVal (sVar 5)) bYes [6])) lNil))) (gName 5) (iVal (sVar 1)) bYes [5]))) tNil)))⟩
def f_require_few : Fn := ⟨2, 2, (tSeq (tIf (s2 (cmInt fun i j => intLt j i) (s2 opAdd (s2 evIdx (sVar 0) (sVal (.int (0)))) (s2 evIdx (sVar 1) (sVal (.int (0))))) (sVal (.int (6)))) (tSeq tNo tNil) tNil) tNil)⟩
def f_whole_answer : Fn := ⟨1, 1, (tSeq (tExpr (sCall 15 (lCons (sVar 0) lNil))) (tSeq (tRet (sCall 23 (lCons (sVar 0) lNil))) tNil))⟩
def f_like_parting : Fn := ⟨1, 1, (tSeq (tExpr (sCall 15 (lCons (sVar 0) lNil))) (tSeq (tRet (sCall 24 (lCons (sVar 0) lNil))) tNil))⟩
def f_retracted : Fn := ⟨1, 1, (tSeq (tExpr (sCall 15 (lCons (sVar 0) lNil))) (tSeq (tRet (sCall 25 (lCons (sVar 0) lNil))) tNil))⟩
def f_retraction_sizes : Fn := ⟨1, 2, (tSeq (tExpr (sCall 15 (lCons (sVar 0) lNil))) (tSeq (tRet (sBi (b1 (biTuple false)) (lCons (sComp (s2 evIdx (sVar 1) (sVal (.int (0)))) (gName 1) (iVal (sCall 26 (lCons (sVar 0) lNil))) bYes [1]) lNil))) tNil))⟩
def f_level : Fn := ⟨1, 1, (tSeq (tExpr (sCall 15 (lCons (sVar 0) lNil))) (tSeq (tRet (sCall 27 (lCons (sVar 0) lNil))) tNil))⟩
def f_cycles_beside : Fn := ⟨2, 2, (tSeq (tExpr (sCall 15 (lCons (sVar 0) lNil))) (tSeq (tExpr (sCall 15 (lCons (sVar 1) lNil))) (tSeq (tExpr (sCall 29 (lCons (sVar 0) (lCons (sVar 1) lNil)))) (tSeq (tRet (sTup false (lCons (s2 opAdd (s2 evIdx (sVar 0) (sVal (.int (0)))) (s2 evIdx (sVar 1) (sVal (.int (0))))) (lCons (sBi (b1 (biTuple false)) (lCons (sCall 28 (lCons (sCall 9 (lCons (sVar 0) lNil)) (lCons (sCall 9 (lCons (sVar 1) lNil)) lNil))) lNil)) lNil)))) tNil))))⟩
def f__law_dice : Fn := ⟨2, 4, (tSeq (tSet (gName 2) (sIte (s2 (cmInt intLt) (sVar 1) (sBi (b1 biLen) (lCons (sVar 0) lNil))) (sBi (b1 biInt) (lCons (s2 evIdx (sVar 0) (sVar 1)) lNil)) (s2 opAdd (s2 opMul (sVal (.int (97))) (sVar 1)) (sVal (.int (43)))))) (tSeq (tSet (gName 3) (s2 opMod (sBi (b2 biMax2) (lCons (sVal (.int (0))) (lCons (s2 opSub (sBi (b1 biAbs) (lCons (sVar 2) lNil)) (s2 opPow (sVal (.int (10))) (sVal (.int (17))))) lNil))) (s2 opMul (s2 opPow (sVal (.int (10))) (sVal (.int (60)))) (s2 opPow (sVal (.int (10))) (sVal (.int (60))))))) (tSeq (tRet (sLst (lCons (sVar 3) (lCons (s2 opAdd (s2 opAdd (s2 opAdd (s2 opMul (s2 opMod (sBi (b1 biAbs) (lCons (sVar 2) lNil)) (sVal (.int (1152921504606846737)))) (sVal (.int (37)))) (s2 opMul (sVal (.int (859))) (sVar 1))) (s2 opMul (sVal (.int (31))) (sBi (b1 biInt) (lCons (s2 (cmInt intLt) (sVar 2) (sVal (.int (0)))) lNil)))) (sVal (.int (17)))) (lCons (sVal (.int (0))) lNil))))) tNil)))⟩
def f__law_roll : Fn := ⟨2, 5, (tSeq (tIf (s2 (cmInt fun i j => intLt j i) (s2 evIdx (sVar 0) (sVal (.int (0)))) (sVal (.int (0)))) (tSeq (tSet (gName 4) (s2 opMod (sBi (b1 biInt) (lCons (s2 evIdx (sVar 0) (sVal (.int (0)))) lNil)) (sVar 1))) (tSeq (tPut (sVar 0) (sVal (.int (0))) (s2 opFdiv (s2 evIdx (sVar 0) (sVal (.int (0)))) (sVar 1))) (tSeq (tRet (sVar 4)) tNil))) tNil) (tSeq (tPut (sVar 0) (sVal (.int (2))) (s2 opAdd (s2 evIdx (sVar 0) (sVal (.int (2)))) (sVal (.int (1))))) (tSeq (tSet (gName 2) (s2 opMod (sBi (b1 biInt) (lCons (s2 opAdd (s2 evIdx (sVar 0) (sVal (.int (1)))) (s2 opMul (sVal (.int (15486209))) (s2 evIdx (sVar 0) (sVal (.int (2)))))) lNil)) (sVal (.int (2305843009213693951))))) (tSeq (tSet (gName 3) (s2 opAdd (s2 opMul (s2 opMod (sBi (b1 biInt) (lCons (s2 opAdd (s2 opMul (sVar 2) (sVar 2)) (s2 opMul (sVal (.int (199))) (s2 evIdx (sVar 0) (sVal (.int (2)))))) lNil)) (sVal (.int (2305843009213693907)))) (sVal (.int (7368751)))) (sVar 2))) (tSeq (tRet (s2 opMod (sBi (b1 biInt) (lCons (s2 opFdiv (sVar 3) (sVal (.int (65536)))) lNil)) (sVar 1))) tNil)))))⟩
def f__law_pick : Fn := ⟨2, 2, (tSeq (tRet (s2 evIdx (sVar 1) (sCall 37 (lCons (sVar 0) (lCons (sBi (b1 biLen) (lCons (sVar 1) lNil)) lNil))))) tNil)⟩
def f__law_mixed : Fn := ⟨2, 5, (tSeq (tSet (gTup 2 (glCons (gName 3) (glCons (gName 4) glNil))) (sTup false (lCons (sBi (b1 biList) (lCons (sVar 1) lNil)) (lCons (sLst lNil) lNil)))) (tSeq (tFor (gName 2) (iRng1 (sBi (b1 biLen) (lCons (sVar 1) lNil))) (tSeq (tExpr (sMe (meKd .append) (evMe .append) (sVar 4) (lCons (sMe (meKd .popAt) (evMe .popAt) (sVar 3) (lCons (sCall 37 (lCons (sVar 0) (lCons (sBi (b1 biLen) (lCons (sVar 3) lNil)) lNil))) lNil)) lNil))) tNil)) (tSeq (tRet (sVar 4)) tNil)))⟩
def f__law_ascending : Fn := ⟨1, 2, (tSeq (tRet (sBi (b1 biSorted) (lCons (sBi (b1 biDict) (lCons (sComp (sTup false (lCons (sVar 1) (lCons (sVal (.bl true)) lNil))) (gName 1) (iVal (sVar 0)) bYes [1]) lNil)) lNil))) tNil)⟩
def f__law_back : Fn := ⟨1, 2, (tSeq (tRet (sBi (b1 (biTuple false)) (lCons (sComp (sMe (meKd .index) (evMe .index) (sVar 0) (lCons (sVar 1) lNil)) (gName 1) (iRng1 (sBi (b1 biLen) (lCons (sVar 0) lNil))) bYes [1]) lNil))) tNil)⟩
def f__law_by : Fn := ⟨3, 3, (tSeq (tRet (s2 evIdx (s2 evIdx (s2 evIdx (sVar 0) (sVal (.int (1)))) (sVar 1)) (sVar 2))) tNil)⟩
def f__law_table : Fn := ⟨1, 2, (tSeq (tRet (sTup false (lCons (sBi (b1 biLen) (lCons (sVar 0) lNil)) (lCons (sBi (b1 (biTuple false)) (lCons (sComp (sBi (b1 (biTuple false)) (lCons (sVar 1) lNil)) (gName 1) (iVal (sVar 0)) bYes [1]) lNil)) lNil)))) tNil)⟩
def f__law_named : Fn := ⟨2, 6, (tSeq (tSet (gTup 2 (glCons (gName 2) (glCons (gName 3) glNil))) (sTup false (lCons (s2 evIdx (sVar 0) (sVal (.int (0)))) (lCons (sCall 41 (lCons (sVar 1) lNil)) lNil)))) (tSeq (tRet (sCall 43 (lCons (sComp (sComp (s2 evIdx (sVar 1) (s2 evIdx (s2 evIdx (s2 evIdx (sVar 0) (sVal (.int (1)))) (s2 evIdx (sVar 3) (sVar 4))) (s2 evIdx (sVar 3) (sVar 5)))) (gName 5) (iRng1 (sVar 2)) bYes [5]) (gName 4) (iRng1 (sVar 2)) bYes [4]) lNil))) tNil))⟩
def f__law_parting_of : Fn := ⟨1, 4, (tSeq (tSet (gTup 2 (glCons (gName 2) (glCons (gName 3) glNil))) (sTup false (lCons (sLst lNil) (lCons (sLst lNil) lNil)))) (tSeq (tFor (gName 1) (iVal (sVar 0)) (tSeq (tIf (s2 cmNotIn (sVar 1) (sVar 2)) (tSeq (tExpr (sMe (meKd .append) (evMe .append) (sVar 2) (lCons (sVar 1) lNil))) tNil) tNil) (tSeq (tExpr (sMe (meKd .append) (evMe .append) (sVar 3) (lCons (sMe (meKd .index) (evMe .index) (sVar 2) (lCons (sVar 1) lNil)) lNil))) tNil))) (tSeq (tRet (sBi (b1 (biTuple true)) (lCons (sVar 3) lNil))) tNil)))⟩
def f__law_read : Fn := ⟨1, 4, (tSeq (tSet (gName 1) (s2 opAdd (sMe (meKd .index) (evMe .index) (sLst (lCons (sVal (.int (1))) (lCons (sVal (.int (4))) (lCons (sVal (.int (9))) (lCons (sVal (.int (16))) (lCons (sVal (.int (25))) (lCons (sVal (.int (36))) lNil))))))) (lCons (sBi (b1 biLen) (lCons (sVar 0) lNil)) lNil)) (sVal (.int (1))))) (tSeq (tRet (sCall 43 (lCons (sComp (sComp (sBi (b1 biInt) (lCons (sVar 3) lNil)) (gName 3) (iVal (sCut (sVar 0) (oSome (s2 opMul (sVar 1) (sVar 2))) (oSome (s2 opAdd (s2 opMul (sVar 1) (sVar 2)) (sVar 1))))) bYes [3]) (gName 2) (iRng1 (sVar 1)) bYes [2]) lNil))) tNil))⟩
def f__law_cycle_texts : Fn := ⟨0, 1, (tSeq (tSet (gName 0) (sLst lNil)) (tSeq (tSet (gName 0) (s2 opAdd (sVar 0) (sLst (lCons (sVal (.str [48, 49, 50, 51, 48, 49, 50, 51, 48, 49, 50, 51, 48, 49, 50, 51])) (lCons (sVal (.str [48, 49, 50, 51, 48, 49, 50, 51, 48, 49, 50, 51, 48, 50, 49, 51])) (lCons (sVal (.str [48, 49, 50, 51, 48, 49, 50, 51, 48, 49, 50, 51, 49, 50, 48, 51])) (lCons (sVal (.str [48, 49, 50, 51, 48, 49, 50, 51, 48, 49, 51, 50, 48, 49, 51, 50])) lNil))))))) (tSeq (tSet (gName 0) (s2 opAdd (sVar 0) (sLst (lCons (sVal (.str [48, 49, 50, 51, 48, 49, 50, 51, 48, 49, 51, 50, 49, 48, 51, 50])) (lCons (sVal (.str [48, 49, 50, 51, 48, 49, 50, 51, 49, 48, 50, 51, 49, 48, 50, 51])) (lCons (sVal (.str [48, 49, 50, 51, 48, 49, 50, 51, 49, 48, 51, 50, 49, 48, 51, 50])) (lCons (sVal (.str [48, 49, 50, 51, 48, 49, 51, 50, 48, 49, 51, 50, 48, 49, 51, 50])) lNil))))))) (tSeq (tSet (gName 0) (s2 opAdd (sVar 0) (sLst (lCons (sVal (.str [48, 49, 50, 51, 48, 50, 51, 49, 48, 50, 51, 49, 48, 50, 51, 49])) (lCons (sVal (.str [48, 49, 51, 50, 48, 49, 51, 50, 48, 49, 51, 50, 48, 49, 51, 50])) (lCons (sVal (.str [48, 49, 51, 50, 48, 49, 51, 50, 49, 48, 50, 51, 49, 48, 50, 51])) (lCons (sVal (.str [48, 49, 51, 50, 48, 49, 51, 50, 49, 48, 51, 50, 49, 48, 51, 50])) lNil))))))) (tSeq (tSet (gName 0) (s2 opAdd (sVar 0) (sLst (lCons (sVal (.str [48, 49, 51, 50, 50, 51, 49, 48, 49, 48, 50, 51, 51, 50, 48, 49])) (lCons (sVal (.str [48, 50, 51, 49, 48, 50, 51, 49, 48, 50, 51, 49, 48, 50, 51, 49])) (lCons (sVal (.str [48, 50, 51, 49, 48, 51, 49, 50, 48, 51, 49, 50, 48, 51, 49, 50])) (lCons (sVal (.str [49, 48, 50, 51, 49, 48, 50, 51, 48, 49, 51, 50, 48, 49, 51, 50])) lNil))))))) (tSeq (tSet (gName 0) (s2 opAdd (sVar 0) (sLst (lCons (sVal (.str [49, 48, 50, 51, 49, 48, 50, 51, 48, 49, 51, 50, 49, 48, 51, 50])) (lCons (sVal (.str [49, 48, 50, 51, 49, 48, 50, 51, 49, 48, 51, 50, 49, 48, 51, 50])) (lCons (sVal (.str [49, 48, 50, 51, 50, 51, 49, 48, 51, 50, 48, 49, 48, 49, 51, 50])) (lCons (sVal (.str [49, 48, 51, 50, 49, 48, 51, 50, 49, 48, 51, 50, 49, 48, 51, 50])) lNil))))))) (tSeq (tSet (gName 0) (s2 opAdd (sVar 0) (sLst (lCons (sVal (.str [49, 48, 51, 50, 50, 51, 48, 49, 50, 51, 48, 49, 49, 48, 51, 50])) (lCons (sVal (.str [49, 50, 51, 48, 49, 50, 51, 48, 49, 50, 51, 48, 49, 50, 51, 48])) (lCons (sVal (.str [49, 50, 51, 48, 51, 48, 49, 50, 49, 50, 51, 48, 51, 48, 49, 50])) lNil)))))) (tSeq (tRet (sVar 0)) tNil))))))))⟩
def f__law_cycle_table : Fn := ⟨2, 4, (tSeq (tSet (gName 2) (sLst (lCons (sLst (lCons (sVal (.str [48])) lNil)) (lCons (sLst (lCons (sVal (.str [48, 49, 48, 49])) (lCons (sVal (.str [49, 48, 49, 48])) lNil))) (lCons (sLst (lCons (sVal (.str [48, 49, 50, 48, 49, 50, 48, 49, 50])) (lCons (sVal (.str [48, 49, 50, 48, 49, 50, 49, 48, 50])) (lCons (sVal (.str [48, 49, 50, 48, 50, 49, 48, 50, 49])) (lCons (sVal (.str [48, 50, 49, 48, 50, 49, 48, 50, 49])) (lCons (sVal (.str [49, 50, 48, 49, 50, 48, 49, 50, 48])) lNil)))))) lNil))))) (tSeq (tSet (gName 3) (sCall 46 (lCons (sCall 38 (lCons (sVar 0) (lCons (s2 evIdx (s2 opAdd (sVar 2) (sLst (lCons (sCall 47 lNil) lNil))) (s2 opSub (sVar 1) (sVal (.int (1))))) lNil))) lNil))) (tSeq (tRet (sCall 44 (lCons (sVar 3) (lCons (sBi (b1 (biTuple true)) (lCons (sCall 39 (lCons (sVar 0) (lCons (sRng false (iRng1 (sVar 1))) lNil))) lNil)) lNil)))) tNil)))⟩
def f__law_rows : Fn := ⟨2, 7, (tSeq (tSet (gName 2) (sLst (lCons (sTup false lNil) lNil))) (tSeq (tFor (gName 3) (iRng1 (sVar 1)) (tSeq (tSet (gName 4) (sLst lNil)) (tSeq (tFor (gName 5) (iVal (sVar 2)) (tSeq (tExpr (sMe (meKd .extend) (evMe .extend) (sVar 4) (lCons (sComp (s2 opAdd (sVar 5) (sTup false (lCons (sVar 6) lNil))) (gName 6) (iRng1 (sVar 0)) bYes [6]) lNil))) tNil)) (tSeq (tSet (gName 2) (sVar 4)) tNil)))) (tSeq (tRet (sVar 2)) tNil)))⟩
def f__law_pt_table : Fn := ⟨2, 6, (tSeq (tSet (gName 2) (sComp (sMe (meKd .index) (evMe .index) (sVar 1) (lCons (sVar 3) lNil)) (gName 3) (iRng1 (s2 opAdd (sBi (b1 biMax) (lCons (sVar 1) lNil)) (sVal (.int (1))))) bYes [3])) (tSeq (tRet (sCall 43 (lCons (sComp (sComp (s2 evIdx (sVar 1) (sCall 42 (lCons (sVar 0) (lCons (sVar 4) (lCons (sVar 5) lNil))))) (gName 5) (iVal (sVar 2)) bYes [5]) (gName 4) (iVal (sVar 2)) bYes [4]) lNil))) tNil))⟩
def f__law_cy_is : Fn := ⟨1, 7, (tSeq (tSet (gName 1) (s2 evIdx (sVar 0) (sVal (.int (0))))) (tSeq (tIf (s2 cmNe (sComp (sVar 6) (gName 6) (iVal (s2 evIdx (sVar 0) (sVal (.int (1))))) (bIf (s2 cmNe (sBi (b1 biLen) (lCons (sCall 40 (lCons (sVar 6) lNil)) lNil)) (sVar 1))) [6]) (sLst lNil)) (tSeq (tRet (sVal (.bl false))) tNil) tNil) (tSeq (tFor (gTup 3 (glCons (gName 2) (glCons (gName 3) (glCons (gName 4) glNil)))) (iVal (sCall 49 (lCons (sVar 1) (lCons (sVal (.int (3))) lNil)))) (tSeq (tSet (gName 5) (sCall 42 (lCons (sVar 0) (lCons (sCall 42 (lCons (sVar 0) (lCons (sVar 2) (lCons (sVar 3) lNil)))) (lCons (sCall 42 (lCons (sVar 0) (lCons (sVar 2) (lCons (sVar 4) lNil)))) lNil))))) (tSeq (tIf (s2 cmNe (sVar 5) (sCall 42 (lCons (sVar 0) (lCons (sCall 42 (lCons (sVar 0) (lCons (sVar 3) (lCons (sVar 2) lNil)))) (lCons (sCall 42 (lCons (sVar 0) (lCons (sVar 3) (lCons (sVar 4) lNil)))) lNil))))) (tSeq (tRet (sVal (.bl false))) tNil) tNil) tNil))) (tSeq (tRet (sVal (.bl true))) tNil))))⟩
def f__law_cy_parting : Fn := ⟨1, 1, (tSeq (tRet (sCall 45 (lCons (sBi (b1 biList) (lCons (s2 evIdx (sVar 0) (sVal (.int (1)))) lNil)) lNil))) tNil)⟩
def f__law_once : Fn := ⟨1, 1, (tSeq (tRet (sCall 50 (lCons (sVar 0) (lCons (sCall 52 (lCons (sVar 0) lNil)) lNil)))) tNil)⟩
def f__law_sizes : Fn := ⟨1, 3, (tSeq (tSet (gTup 2 (glCons (gName 1) (glCons (gName 2) glNil))) (sTup false (lCons (sLst (lCons (s2 evIdx (sVar 0) (sVal (.int (0)))) lNil)) (lCons (sCall 53 (lCons (sVar 0) lNil)) lNil)))) (tSeq (tWhl (s2 (cmInt intLt) (s2 evIdx (sVar 2) (sVal (.int (0)))) (s2 evIdx (sVar 1) (s1 negV (sVal (.int (1)))))) (tSeq (tExpr (sMe (meKd .append) (evMe .append) (sVar 1) (lCons (s2 evIdx (sVar 2) (sVal (.int (0)))) lNil))) (tSeq (tSet (gName 2) (sCall 53 (lCons (sVar 2) lNil))) tNil))) (tSeq (tRet (sVar 1)) tNil)))⟩
def f__law_right : Fn := ⟨1, 7, (tSeq (tSet (gName 1) (sCall 48 (lCons (sVar 0) (lCons (s2 opAdd (sVal (.int (1))) (sCall 37 (lCons (sVar 0) (lCons (sVal (.int (4))) lNil)))) lNil)))) (tSeq (tIf (s2 cmEq (sCall 37 (lCons (sVar 0) (lCons (sVal (.int (4))) lNil))) (sVal (.int (0)))) (tSeq (tSet (gName 1) (sCall 35 (lCons (sVar 1) (lCons (sCall 48 (lCons (sVar 0) (lCons (s2 opAdd (sVal (.int (1))) (sCall 37 (lCons (sVar 0) (lCons (sIte (s2 (cmInt fun i j => intLt j i) (s2 evIdx (sVar 1) (sVal (.int (0)))) (sVal (.int (2)))) (s2 opSub (sVal (.int (6))) (s2 evIdx (sVar 1) (sVal (.int (0))))) (sVal (.int (4)))) lNil)))) lNil))) lNil)))) tNil) tNil) (tSeq (tSet (gTup 2 (glCons (gName 4) (glCons (gName 5) glNil))) (sTup false (lCons (sCall 52 (lCons (sVar 1) lNil)) (lCons (sCall 53 (lCons (sVar 1) lNil)) lNil)))) (tSeq (tIf (sCmpR true (sLst (lCons (sCall 31 (lCons (sVar 1) lNil)) (lCons (sCall 32 (lCons (sVar 1) lNil)) lNil))) (sLst (lCons (sVar 4) (lCons (sVar 5) lNil)))) (tSeq (tRet (sVal (.bl false))) tNil) tNil) (tSeq (tIf (s1 notV (sCall 51 (lCons (sVar 5) lNil))) (tSeq (tRet (sVal (.bl false))) tNil) tNil) (tSeq (tIf (sAnd (s2 cmEq (s2 evIdx (s2 evIdx (sCall 30 (lCons (sVar 1) lNil)) (sVal (.int (0)))) (sVal (.int (0)))) (sVal (.str [119, 104, 111, 108, 101]))) (s2 cmNe (s2 evIdx (s2 evIdx (sCall 30 (lCons (sVar 5) lNil)) (sVal (.int (0)))) (sVal (.int (0)))) (sVal (.str [119, 104, 111, 108, 101])))) (tSeq (tRet (sVal (.bl false))) tNil) tNil) (tSeq (tSet (gName 2) (sCall 54 (lCons (sVar 1) lNil))) (tSeq (tIf (sCmpR true (sCall 33 (lCons (sVar 1) lNil)) (sBi (b1 (biTuple false)) (lCons (sVar 2) lNil))) (tSeq (tRet (sVal (.bl false))) tNil) tNil) (tSeq (tIf (sCmpR true (sCall 34 (lCons (sVar 1) lNil)) (sIte (s2 cmEq (s2 evIdx (sVar 2) (s1 negV (sVal (.int (1))))) (sVal (.int (1)))) (s2 opSub (sBi (b1 biLen) (lCons (sVar 2) lNil)) (sVal (.int (1)))) (sVal .non))) (tSeq (tRet (sVal (.bl false))) tNil) tNil) (tSeq (tFor (gName 3) (iRng1 (s2 evIdx (sVar 1) (sVal (.int (0))))) (tSeq (tFor (gName 6) (iRng1 (s2 evIdx (sVar 1) (sVal (.int (0))))) (tSeq (tIf (s2 cmNe (s2 evIdx (sVar 4) (sCall 42 (lCons (sVar 1) (lCons (sVar 3) (lCons (sVar 6) lNil))))) (sCall 42 (lCons (sVar 5) (lCons (s2 evIdx (sVar 4) (sVar 3)) (lCons (s2 evIdx (sVar 4) (sVar 6)) lNil))))) (tSeq (tRet (sVal (.bl false))) tNil) tNil) tNil)) tNil)) (tSeq (tRet (sVal (.bl true))) tNil)))))))))))⟩
def f_law : Fn := ⟨1, 8, (tSeq (tFor (gName 1) (iRng1 (sBi (b2 biMax2) (lCons (sVal (.int (1))) (lCons (sBi (b2 biMin2) (lCons (sVal (.int (5))) (lCons (sBi (b1 biLen) (lCons (sVar 0) lNil)) lNil))) lNil)))) (tSeq (tSet (gName 3) (sCall 36 (lCons (sVar 0) (lCons (sVar 1) lNil)))) (tSeq (tFor (gName 4) (iRng1 (sVal (.int (6)))) (tSeq (tIf (s1 notV (sCall 55 (lCons (sVar 3) lNil))) (tSeq (tRet (sVal (.bl false))) tNil) tNil) tNil)) tNil))) (tSeq (tSet (gTup 3 (glCons (gName 5) (glCons (gName 6) (glCons (gName 7) glNil)))) (sTup false (lCons (sCall 46 (lCons (sVal (.str [48, 49, 50, 48, 49, 50, 49, 48, 50])) lNil)) (lCons (sCall 46 (lCons (sVal (.str [49, 48, 49, 48])) lNil)) (lCons (sCall 46 (lCons (sVal (.str [48, 49, 51, 50, 50, 51, 49, 48, 49, 48, 50, 51, 51, 50, 48, 49])) lNil)) lNil))))) (tSeq (tSet (gName 2) (sLst (lCons (sCall 31 (lCons (sVar 5) lNil)) (lCons (sCall 32 (lCons (sVar 5) lNil)) (lCons (sCall 33 (lCons (sVar 5) lNil)) (lCons (sCall 34 (lCons (sVar 5) lNil)) (lCons (sCall 34 (lCons (sVar 7) lNil)) (lCons (sCall 33 (lCons (sVar 7) lNil)) lNil)))))))) (tSeq (tSet (gName 2) (s2 opAdd (sVar 2) (sLst (lCons (sCall 34 (lCons (sTup false (lCons (sVal (.int (1))) (lCons (sTup false (lCons (sTup false (lCons (sVal (.int (0))) lNil)) lNil)) lNil))) lNil)) (lCons (sCall 32 (lCons (sVar 6) lNil)) (lCons (sCall 34 (lCons (sVar 6) lNil)) (lCons (sCall 33 (lCons (sTup false (lCons (sVal (.int (1))) (lCons (sTup false (lCons (sTup false (lCons (sVal (.int (0))) lNil)) lNil)) lNil))) lNil)) lNil))))))) (tSeq (tRet (s2 cmEq (sVar 2) (sLst (lCons (sTup false (lCons (sVal (.int (0))) (lCons (sVal (.int (0))) (lCons (sVal (.int (1))) lNil)))) (lCons (sCall 46 (lCons (sVal (.str [48, 49, 48, 49])) lNil)) (lCons (sTup false (lCons (sVal (.int (3))) (lCons (sVal (.int (2))) (lCons (sVal (.int (1))) lNil)))) (lCons (sVal (.int (2))) (lCons (sVal .non) (lCons (sTup false (lCons (sVal (.int (4))) lNil)) (lCons (sVal (.int (0))) (lCons (sTup false (lCons (sVal (.int (1))) (lCons (sTup false (lCons (sTup false (lCons (sVal (.int (0))) lNil)) lNil)) lNil))) (lCons (sVal (.int (1))) (lCons (sTup false (lCons (sVal (.int (1))) lNil)) lNil))))))))))))) tNil)))))⟩
def prog : List Fn := [f_is_whole, f_is_within, f_is_pair, f_key_kind, f_sorted_keys, f_copied, f_is_row_of, f_is_map_in, f_is_table_in, f_rows_in, f_require_table, f_does_cycle, f_doubled_in, f_first_cycle_bar, f_is_cycle_table_in, f_require_cycle_table, f_piece_from, f_pieces_in, f_parting_by_keys, f_count_classes, f_first_things, f_factor_in, f_row_pieces_in, f_whole_answer_in, f_like_parting_in, f_retracted_in, f_retractions_in, f_level_in, f_beside_rows, f_require_few, f_whole_answer, f_like_parting, f_retracted, f_retraction_sizes, f_level, f_cycles_beside, f__law_dice, f__law_roll, f__law_pick, f__law_mixed, f__law_ascending, f__law_back, f__law_by, f__law_table, f__law_named, f__law_parting_of, f__law_read, f__law_cycle_texts, f__law_cycle_table, f__law_rows, f__law_pt_table, f__law_cy_is, f__law_cy_parting, f__law_once, f__law_sizes, f__law_right, f_law]
def P : Nat → Option Fn := fun g => (yes (Nat.ble 28 g) (yes (Nat.ble 42 g) (yes (Nat.ble 49 g) (yes (Nat.ble 53 g) (yes (Nat.ble 55 g) (yes (Nat.ble 56 g) (some f_law) (some f__law_right)) (yes (Nat.ble 54 g) (some f__law_sizes) (some f__law_once))) (yes (Nat.ble 51 g) (yes (Nat.ble 52 g) (some f__law_cy_parting) (some f__law_cy_is)) (yes (Nat.ble 50 g) (some f__law_pt_table) (some f__law_rows)))) (yes (Nat.ble 45 g) (yes (Nat.ble 47 g) (yes (Nat.ble 48 g) (some f__law_cycle_table) (some f__law_cycle_texts)) (yes (Nat.ble 46 g) (some f__law_read) (some f__law_parting_of))) (yes (Nat.ble 43 g) (yes (Nat.ble 44 g) (some f__law_named) (some f__law_table)) (some f__law_by)))) (yes (Nat.ble 35 g) (yes (Nat.ble 38 g) (yes (Nat.ble 40 g) (yes (Nat.ble 41 g) (some f__law_back) (some f__law_ascending)) (yes (Nat.ble 39 g) (some f__law_mixed) (some f__law_pick))) (yes (Nat.ble 36 g) (yes (Nat.ble 37 g) (some f__law_roll) (some f__law_dice)) (some f_cycles_beside))) (yes (Nat.ble 31 g) (yes (Nat.ble 33 g) (yes (Nat.ble 34 g) (some f_level) (some f_retraction_sizes)) (yes (Nat.ble 32 g) (some f_retracted) (some f_like_parting))) (yes (Nat.ble 29 g) (yes (Nat.ble 30 g) (some f_whole_answer) (some f_require_few)) (some f_beside_rows))))) (yes (Nat.ble 14 g) (yes (Nat.ble 21 g) (yes (Nat.ble 24 g) (yes (Nat.ble 26 g) (yes (Nat.ble 27 g) (some f_level_in) (some f_retractions_in)) (yes (Nat.ble 25 g) (some f_retracted_in) (some f_like_parting_in))) (yes (Nat.ble 22 g) (yes (Nat.ble 23 g) (some f_whole_answer_in) (some f_row_pieces_in)) (some f_factor_in))) (yes (Nat.ble 17 g) (yes (Nat.ble 19 g) (yes (Nat.ble 20 g) (some f_first_things) (some f_count_classes)) (yes (Nat.ble 18 g) (some f_parting_by_keys) (some f_pieces_in))) (yes (Nat.ble 15 g) (yes (Nat.ble 16 g) (some f_piece_from) (some f_require_cycle_table)) (some f_is_cycle_table_in)))) (yes (Nat.ble 7 g) (yes (Nat.ble 10 g) (yes (Nat.ble 12 g) (yes (Nat.ble 13 g) (some f_first_cycle_bar) (some f_doubled_in)) (yes (Nat.ble 11 g) (some f_does_cycle) (some f_require_table))) (yes (Nat.ble 8 g) (yes (Nat.ble 9 g) (some f_rows_in) (some f_is_table_in)) (some f_is_map_in))) (yes (Nat.ble 3 g) (yes (Nat.ble 5 g) (yes (Nat.ble 6 g) (some f_is_row_of) (some f_copied)) (yes (Nat.ble 4 g) (some f_sorted_keys) (some f_key_kind))) (yes (Nat.ble 1 g) (yes (Nat.ble 2 g) (some f_is_pair) (some f_is_within)) (some f_is_whole))))))
end
end K76

set_option Elab.async false
set_option linter.all false
set_option maxRecDepth 100000
set_option maxHeartbeats 0
namespace K76
open Ev
noncomputable section
def m1 : List PV := [decT 65]
def m2 : List PV := [decT 36930, decT 33290]
def m3 : List PV := [decT 1359512643, decT 1344832579, decT 1241842755, decT 1358996547, decT 1359512195, decT 1241842307, decT 1359483915, decT 1344803851, decT 1109463179, decT 1212424723, decT 1095270483, decT 1094754387]
def m4 : List PV := [decT 3171216001348676, decT 3140429675770948, decT 3167367710651460, decT 3105795059496004, decT 3132733094376516, decT 3101946768798788, decT 2924865267184708, decT 2921016976487492, decT 3171080709878852, decT 3171215061824580, decT 3167366771127364, decT 2924864327660612, decT 2921016036963396, decT 3171012124619844, decT 3171077891306564, decT 3171010245571652, decT 3171215986668612, decT 2924865252504644, decT 3171208483320900, decT 3140422157743172, decT 3171002727543876, decT 2647720660055108, decT 2863277565293636, decT 2617062107919428, decT 2547792875369540, decT 2616926816449604, decT 3171215997219908, decT 3101946764670020, decT 3171215953179716, decT 2617062103790660, decT 2547792871240772, decT 3171215980475460, decT 3171215951115332, decT 3171010195338308, decT 3171208433087556, decT 3171002677310532, decT 3171216001345092, decT 2924865267181124, decT 3171215986665028, decT 2924865252501060, decT 3167366756443716, decT 2921016022279748, decT 2543943626335812, decT 3167155340813892, decT 3171216001348228, decT 3140429675770500, decT 3171208483320452, decT 3140422157742724, decT 2639946108940932, decT 2828588424737412, decT 3140223869760132, decT 3140216351732356, decT 3171216001341060, decT 2647720660047492, decT 2863277565286020, decT 3171216001344196, decT 2647720660050628, decT 2863277565289156, decT 3171216001340612, decT 3171080709870788, decT 2617062107911364, decT 2616926816441540, decT 3101868740351172, decT 3101811473192132, decT 2851611508806852, decT 2547657579762884, decT 3171216001119244, decT 3167367710422028, decT 2924865266955276, decT 2921016976258060, decT 3171215061595148, decT 3167366770897932, decT 2924864327431180, decT 2921016036733964, decT 3171215986439180, decT 2924865252275212, decT 2924772202460172, decT 2301442136847372, decT 3171216001115660, decT 2924865266951692, decT 3171215986435596, decT 2924865252271628, decT 3167366756214284, decT 2921016022050316, decT 2920924865963532, decT 2297592891942412, decT 3171200025538700, decT 3105779083686028, decT 3132717118566540, decT 2851790929004172, decT 2366726837143180, decT 3101811458279052, decT 2851611493893772, decT 2328310682493132, decT 2828634491232460, decT 2828588443312332, decT 3140223888335052, decT 2336136870266060, decT 2335932993537228, decT 2335998760223948, decT 3171206603813396, decT 3105785661960724, decT 3132723696841236, decT 2328432802043412, decT 2640068247066132, decT 2640022199146004, decT 3140346007885332, decT 3171199089913940, decT 3101929857364052, decT 3171063798444116, decT 2617045196484692, decT 2547775963934804, decT 2616909905014868, decT 2366845232099412, decT 3171199085785172, decT 3101929853235284, decT 2617045192355924, decT 2547775959806036, decT 2616865761374292, decT 2362877654861396, decT 2362877606692436, decT 2362877633988180, decT 3171199089905876, decT 3171063798436052, decT 2617045196476628, decT 2616909905006804, decT 2547731824414932, decT 3101794561757396, decT 2547640668328148, decT 2297440703942868, decT 3167214553531092, decT 2543884487918292, decT 2301289919480532, decT 2543791423423188, decT 2617045181571612, decT 2366845217186332, decT 2366787950027292, decT 2851729873936924, decT 2605517235131420, decT 2605313358402588, decT 2605379125089308, decT 2820936051204188, decT 2820936003035228, decT 2820936030330972, decT 2328440338646108, decT 2297654013068380, decT 2328234582869084, decT 2328432820618332, decT 2297646495040604, decT 2640068265641052, decT 2328227064841308, decT 2828710581437532, decT 2328440288412764, decT 2328234532635740, decT 2328432770384988, decT 2328227014607964, decT 2301501349564572, decT 2924713064042652, decT 2301289933934748, decT 2543791437877404, decT 2328440338645660, decT 2297654013067932, decT 2328432820617884, decT 2297646495040156, decT 2920863819137692, decT 2297448207057564, decT 2547640653415068, decT 2297440689029788]
def cyTab : List (List PV × List PV) := [([.int 1], m1), ([.int 2], m2), ([.int 3], m3), ([.int 4], m4)]
def sm0 : PV := .tup false [.int 1, .tup false [.tup false [.int 0]]]
def sm1 : PV := .tup false [.int 2, .tup false [.tup false [.int 0, .int 1], .tup false [.int 0, .int 1]]]
def sm2 : PV := .tup false [.int 2, .tup false [.tup false [.int 1, .int 0], .tup false [.int 1, .int 0]]]
def sm3 : PV := .tup false [.int 3, .tup false [.tup false [.int 0, .int 1, .int 2], .tup false [.int 0, .int 1, .int 2], .tup false [.int 0, .int 1, .int 2]]]
def sm4 : PV := .tup false [.int 3, .tup false [.tup false [.int 0, .int 1, .int 2], .tup false [.int 0, .int 2, .int 1], .tup false [.int 0, .int 2, .int 1]]]
def sm5 : PV := .tup false [.int 3, .tup false [.tup false [.int 1, .int 0, .int 2], .tup false [.int 1, .int 0, .int 2], .tup false [.int 0, .int 1, .int 2]]]
def sm6 : PV := .tup false [.int 3, .tup false [.tup false [.int 2, .int 1, .int 0], .tup false [.int 0, .int 1, .int 2], .tup false [.int 2, .int 1, .int 0]]]
def sm7 : PV := .tup false [.int 4, .tup false [.tup false [.int 0, .int 1, .int 2, .int 3], .tup false [.int 0, .int 1, .int 2, .int 3], .tup false [.int 0, .int 1, .int 3, .int 2], .tup false [.int 0, .int 1, .int 3, .int 2]]]
def sm8 : PV := .tup false [.int 4, .tup false [.tup false [.int 0, .int 1, .int 2, .int 3], .tup false [.int 0, .int 2, .int 1, .int 3], .tup false [.int 0, .int 2, .int 1, .int 3], .tup false [.int 0, .int 1, .int 2, .int 3]]]
def sm9 : PV := .tup false [.int 4, .tup false [.tup false [.int 0, .int 1, .int 2, .int 3], .tup false [.int 0, .int 3, .int 2, .int 1], .tup false [.int 0, .int 1, .int 2, .int 3], .tup false [.int 0, .int 3, .int 2, .int 1]]]
def sm10 : PV := .tup false [.int 4, .tup false [.tup false [.int 0, .int 1, .int 3, .int 2], .tup false [.int 2, .int 3, .int 1, .int 0], .tup false [.int 1, .int 0, .int 2, .int 3], .tup false [.int 3, .int 2, .int 0, .int 1]]]
def sm11 : PV := .tup false [.int 4, .tup false [.tup false [.int 0, .int 1, .int 3, .int 2], .tup false [.int 3, .int 2, .int 0, .int 1], .tup false [.int 2, .int 3, .int 1, .int 0], .tup false [.int 1, .int 0, .int 2, .int 3]]]
def sm12 : PV := .tup false [.int 4, .tup false [.tup false [.int 0, .int 2, .int 1, .int 3], .tup false [.int 1, .int 3, .int 0, .int 2], .tup false [.int 3, .int 1, .int 2, .int 0], .tup false [.int 2, .int 0, .int 3, .int 1]]]
def sm13 : PV := .tup false [.int 4, .tup false [.tup false [.int 0, .int 2, .int 1, .int 3], .tup false [.int 3, .int 1, .int 2, .int 0], .tup false [.int 2, .int 0, .int 3, .int 1], .tup false [.int 1, .int 3, .int 0, .int 2]]]
def sm14 : PV := .tup false [.int 4, .tup false [.tup false [.int 0, .int 3, .int 2, .int 1], .tup false [.int 1, .int 2, .int 3, .int 0], .tup false [.int 3, .int 0, .int 1, .int 2], .tup false [.int 2, .int 1, .int 0, .int 3]]]
def sm15 : PV := .tup false [.int 4, .tup false [.tup false [.int 0, .int 3, .int 2, .int 1], .tup false [.int 2, .int 1, .int 0, .int 3], .tup false [.int 1, .int 2, .int 3, .int 0], .tup false [.int 3, .int 0, .int 1, .int 2]]]
def sm16 : PV := .tup false [.int 4, .tup false [.tup false [.int 1, .int 0, .int 2, .int 3], .tup false [.int 1, .int 0, .int 2, .int 3], .tup false [.int 0, .int 1, .int 2, .int 3], .tup false [.int 0, .int 1, .int 2, .int 3]]]
def sm17 : PV := .tup false [.int 4, .tup false [.tup false [.int 1, .int 0, .int 2, .int 3], .tup false [.int 2, .int 3, .int 1, .int 0], .tup false [.int 3, .int 2, .int 0, .int 1], .tup false [.int 0, .int 1, .int 3, .int 2]]]
def sm18 : PV := .tup false [.int 4, .tup false [.tup false [.int 1, .int 0, .int 2, .int 3], .tup false [.int 3, .int 2, .int 0, .int 1], .tup false [.int 0, .int 1, .int 3, .int 2], .tup false [.int 2, .int 3, .int 1, .int 0]]]
def sm19 : PV := .tup false [.int 4, .tup false [.tup false [.int 1, .int 2, .int 3, .int 0], .tup false [.int 0, .int 3, .int 2, .int 1], .tup false [.int 2, .int 1, .int 0, .int 3], .tup false [.int 3, .int 0, .int 1, .int 2]]]
def sm20 : PV := .tup false [.int 4, .tup false [.tup false [.int 1, .int 2, .int 3, .int 0], .tup false [.int 3, .int 0, .int 1, .int 2], .tup false [.int 0, .int 3, .int 2, .int 1], .tup false [.int 2, .int 1, .int 0, .int 3]]]
def sm21 : PV := .tup false [.int 4, .tup false [.tup false [.int 1, .int 3, .int 0, .int 2], .tup false [.int 0, .int 2, .int 1, .int 3], .tup false [.int 2, .int 0, .int 3, .int 1], .tup false [.int 3, .int 1, .int 2, .int 0]]]
def sm22 : PV := .tup false [.int 4, .tup false [.tup false [.int 1, .int 3, .int 0, .int 2], .tup false [.int 2, .int 0, .int 3, .int 1], .tup false [.int 3, .int 1, .int 2, .int 0], .tup false [.int 0, .int 2, .int 1, .int 3]]]
def sm23 : PV := .tup false [.int 4, .tup false [.tup false [.int 2, .int 0, .int 3, .int 1], .tup false [.int 1, .int 3, .int 0, .int 2], .tup false [.int 0, .int 2, .int 1, .int 3], .tup false [.int 3, .int 1, .int 2, .int 0]]]
def sm24 : PV := .tup false [.int 4, .tup false [.tup false [.int 2, .int 0, .int 3, .int 1], .tup false [.int 3, .int 1, .int 2, .int 0], .tup false [.int 1, .int 3, .int 0, .int 2], .tup false [.int 0, .int 2, .int 1, .int 3]]]
def sm25 : PV := .tup false [.int 4, .tup false [.tup false [.int 2, .int 1, .int 0, .int 3], .tup false [.int 0, .int 1, .int 2, .int 3], .tup false [.int 2, .int 1, .int 0, .int 3], .tup false [.int 0, .int 1, .int 2, .int 3]]]
def sm26 : PV := .tup false [.int 4, .tup false [.tup false [.int 2, .int 1, .int 0, .int 3], .tup false [.int 0, .int 3, .int 2, .int 1], .tup false [.int 3, .int 0, .int 1, .int 2], .tup false [.int 1, .int 2, .int 3, .int 0]]]
def sm27 : PV := .tup false [.int 4, .tup false [.tup false [.int 2, .int 1, .int 0, .int 3], .tup false [.int 3, .int 0, .int 1, .int 2], .tup false [.int 1, .int 2, .int 3, .int 0], .tup false [.int 0, .int 3, .int 2, .int 1]]]
def sm28 : PV := .tup false [.int 4, .tup false [.tup false [.int 2, .int 3, .int 1, .int 0], .tup false [.int 0, .int 1, .int 3, .int 2], .tup false [.int 3, .int 2, .int 0, .int 1], .tup false [.int 1, .int 0, .int 2, .int 3]]]
def sm29 : PV := .tup false [.int 4, .tup false [.tup false [.int 2, .int 3, .int 1, .int 0], .tup false [.int 1, .int 0, .int 2, .int 3], .tup false [.int 0, .int 1, .int 3, .int 2], .tup false [.int 3, .int 2, .int 0, .int 1]]]
def sm30 : PV := .tup false [.int 4, .tup false [.tup false [.int 3, .int 0, .int 1, .int 2], .tup false [.int 1, .int 2, .int 3, .int 0], .tup false [.int 2, .int 1, .int 0, .int 3], .tup false [.int 0, .int 3, .int 2, .int 1]]]
def sm31 : PV := .tup false [.int 4, .tup false [.tup false [.int 3, .int 0, .int 1, .int 2], .tup false [.int 2, .int 1, .int 0, .int 3], .tup false [.int 0, .int 3, .int 2, .int 1], .tup false [.int 1, .int 2, .int 3, .int 0]]]
def sm32 : PV := .tup false [.int 4, .tup false [.tup false [.int 3, .int 1, .int 2, .int 0], .tup false [.int 0, .int 2, .int 1, .int 3], .tup false [.int 1, .int 3, .int 0, .int 2], .tup false [.int 2, .int 0, .int 3, .int 1]]]
def sm33 : PV := .tup false [.int 4, .tup false [.tup false [.int 3, .int 1, .int 2, .int 0], .tup false [.int 2, .int 0, .int 3, .int 1], .tup false [.int 0, .int 2, .int 1, .int 3], .tup false [.int 1, .int 3, .int 0, .int 2]]]
def sm34 : PV := .tup false [.int 4, .tup false [.tup false [.int 3, .int 2, .int 0, .int 1], .tup false [.int 0, .int 1, .int 3, .int 2], .tup false [.int 1, .int 0, .int 2, .int 3], .tup false [.int 2, .int 3, .int 1, .int 0]]]
def sm35 : PV := .tup false [.int 4, .tup false [.tup false [.int 3, .int 2, .int 0, .int 1], .tup false [.int 1, .int 0, .int 2, .int 3], .tup false [.int 2, .int 3, .int 1, .int 0], .tup false [.int 0, .int 1, .int 3, .int 2]]]
def sm36 : PV := .tup false [.int 5, .tup false [.tup false [.int 0, .int 1, .int 2, .int 3, .int 4], .tup false [.int 0, .int 1, .int 2, .int 4, .int 3], .tup false [.int 0, .int 3, .int 4, .int 2, .int 1], .tup false [.int 0, .int 2, .int 1, .int 3, .int 4], .tup false [.int 0, .int 4, .int 3, .int 1, .int 2]]]
def sm37 : PV := .tup false [.int 5, .tup false [.tup false [.int 0, .int 1, .int 2, .int 3, .int 4], .tup false [.int 0, .int 1, .int 2, .int 4, .int 3], .tup false [.int 0, .int 4, .int 3, .int 1, .int 2], .tup false [.int 0, .int 3, .int 4, .int 2, .int 1], .tup false [.int 0, .int 2, .int 1, .int 3, .int 4]]]
def sm38 : PV := .tup false [.int 5, .tup false [.tup false [.int 0, .int 1, .int 2, .int 3, .int 4], .tup false [.int 0, .int 1, .int 3, .int 2, .int 4], .tup false [.int 0, .int 2, .int 4, .int 1, .int 3], .tup false [.int 0, .int 4, .int 2, .int 3, .int 1], .tup false [.int 0, .int 3, .int 1, .int 4, .int 2]]]
def sm39 : PV := .tup false [.int 5, .tup false [.tup false [.int 0, .int 1, .int 2, .int 3, .int 4], .tup false [.int 0, .int 1, .int 3, .int 2, .int 4], .tup false [.int 0, .int 4, .int 2, .int 3, .int 1], .tup false [.int 0, .int 3, .int 1, .int 4, .int 2], .tup false [.int 0, .int 2, .int 4, .int 1, .int 3]]]
def sm40 : PV := .tup false [.int 5, .tup false [.tup false [.int 0, .int 1, .int 2, .int 3, .int 4], .tup false [.int 0, .int 1, .int 4, .int 3, .int 2], .tup false [.int 0, .int 2, .int 3, .int 4, .int 1], .tup false [.int 0, .int 4, .int 1, .int 2, .int 3], .tup false [.int 0, .int 3, .int 2, .int 1, .int 4]]]
def sm41 : PV := .tup false [.int 5, .tup false [.tup false [.int 0, .int 1, .int 2, .int 3, .int 4], .tup false [.int 0, .int 1, .int 4, .int 3, .int 2], .tup false [.int 0, .int 3, .int 2, .int 1, .int 4], .tup false [.int 0, .int 2, .int 3, .int 4, .int 1], .tup false [.int 0, .int 4, .int 1, .int 2, .int 3]]]
def sm42 : PV := .tup false [.int 5, .tup false [.tup false [.int 0, .int 1, .int 2, .int 3, .int 4], .tup false [.int 0, .int 2, .int 1, .int 3, .int 4], .tup false [.int 0, .int 3, .int 4, .int 2, .int 1], .tup false [.int 0, .int 4, .int 3, .int 1, .int 2], .tup false [.int 0, .int 1, .int 2, .int 4, .int 3]]]
def sm43 : PV := .tup false [.int 5, .tup false [.tup false [.int 0, .int 1, .int 2, .int 3, .int 4], .tup false [.int 0, .int 2, .int 1, .int 3, .int 4], .tup false [.int 0, .int 4, .int 3, .int 1, .int 2], .tup false [.int 0, .int 1, .int 2, .int 4, .int 3], .tup false [.int 0, .int 3, .int 4, .int 2, .int 1]]]
def sm44 : PV := .tup false [.int 5, .tup false [.tup false [.int 0, .int 1, .int 2, .int 3, .int 4], .tup false [.int 0, .int 2, .int 3, .int 4, .int 1], .tup false [.int 0, .int 1, .int 4, .int 3, .int 2], .tup false [.int 0, .int 3, .int 2, .int 1, .int 4], .tup false [.int 0, .int 4, .int 1, .int 2, .int 3]]]
def sm45 : PV := .tup false [.int 5, .tup false [.tup false [.int 0, .int 1, .int 2, .int 3, .int 4], .tup false [.int 0, .int 2, .int 3, .int 4, .int 1], .tup false [.int 0, .int 4, .int 1, .int 2, .int 3], .tup false [.int 0, .int 1, .int 4, .int 3, .int 2], .tup false [.int 0, .int 3, .int 2, .int 1, .int 4]]]
def sm46 : PV := .tup false [.int 5, .tup false [.tup false [.int 0, .int 1, .int 2, .int 3, .int 4], .tup false [.int 0, .int 2, .int 4, .int 1, .int 3], .tup false [.int 0, .int 1, .int 3, .int 2, .int 4], .tup false [.int 0, .int 3, .int 1, .int 4, .int 2], .tup false [.int 0, .int 4, .int 2, .int 3, .int 1]]]
def sm47 : PV := .tup false [.int 5, .tup false [.tup false [.int 0, .int 1, .int 2, .int 3, .int 4], .tup false [.int 0, .int 2, .int 4, .int 1, .int 3], .tup false [.int 0, .int 3, .int 1, .int 4, .int 2], .tup false [.int 0, .int 4, .int 2, .int 3, .int 1], .tup false [.int 0, .int 1, .int 3, .int 2, .int 4]]]
def sm48 : PV := .tup false [.int 5, .tup false [.tup false [.int 0, .int 1, .int 2, .int 3, .int 4], .tup false [.int 0, .int 3, .int 1, .int 4, .int 2], .tup false [.int 0, .int 2, .int 4, .int 1, .int 3], .tup false [.int 0, .int 1, .int 3, .int 2, .int 4], .tup false [.int 0, .int 4, .int 2, .int 3, .int 1]]]
def sm49 : PV := .tup false [.int 5, .tup false [.tup false [.int 0, .int 1, .int 2, .int 3, .int 4], .tup false [.int 0, .int 3, .int 1, .int 4, .int 2], .tup false [.int 0, .int 4, .int 2, .int 3, .int 1], .tup false [.int 0, .int 2, .int 4, .int 1, .int 3], .tup false [.int 0, .int 1, .int 3, .int 2, .int 4]]]
def sm50 : PV := .tup false [.int 5, .tup false [.tup false [.int 0, .int 1, .int 2, .int 3, .int 4], .tup false [.int 0, .int 3, .int 2, .int 1, .int 4], .tup false [.int 0, .int 1, .int 4, .int 3, .int 2], .tup false [.int 0, .int 4, .int 1, .int 2, .int 3], .tup false [.int 0, .int 2, .int 3, .int 4, .int 1]]]
def sm51 : PV := .tup false [.int 5, .tup false [.tup false [.int 0, .int 1, .int 2, .int 3, .int 4], .tup false [.int 0, .int 3, .int 2, .int 1, .int 4], .tup false [.int 0, .int 4, .int 1, .int 2, .int 3], .tup false [.int 0, .int 2, .int 3, .int 4, .int 1], .tup false [.int 0, .int 1, .int 4, .int 3, .int 2]]]
def sm52 : PV := .tup false [.int 5, .tup false [.tup false [.int 0, .int 1, .int 2, .int 3, .int 4], .tup false [.int 0, .int 3, .int 4, .int 2, .int 1], .tup false [.int 0, .int 1, .int 2, .int 4, .int 3], .tup false [.int 0, .int 4, .int 3, .int 1, .int 2], .tup false [.int 0, .int 2, .int 1, .int 3, .int 4]]]
def sm53 : PV := .tup false [.int 5, .tup false [.tup false [.int 0, .int 1, .int 2, .int 3, .int 4], .tup false [.int 0, .int 3, .int 4, .int 2, .int 1], .tup false [.int 0, .int 2, .int 1, .int 3, .int 4], .tup false [.int 0, .int 1, .int 2, .int 4, .int 3], .tup false [.int 0, .int 4, .int 3, .int 1, .int 2]]]
def sm54 : PV := .tup false [.int 5, .tup false [.tup false [.int 0, .int 1, .int 2, .int 3, .int 4], .tup false [.int 0, .int 4, .int 1, .int 2, .int 3], .tup false [.int 0, .int 2, .int 3, .int 4, .int 1], .tup false [.int 0, .int 3, .int 2, .int 1, .int 4], .tup false [.int 0, .int 1, .int 4, .int 3, .int 2]]]
def sm55 : PV := .tup false [.int 5, .tup false [.tup false [.int 0, .int 1, .int 2, .int 3, .int 4], .tup false [.int 0, .int 4, .int 1, .int 2, .int 3], .tup false [.int 0, .int 3, .int 2, .int 1, .int 4], .tup false [.int 0, .int 1, .int 4, .int 3, .int 2], .tup false [.int 0, .int 2, .int 3, .int 4, .int 1]]]
def sm56 : PV := .tup false [.int 5, .tup false [.tup false [.int 0, .int 1, .int 2, .int 3, .int 4], .tup false [.int 0, .int 4, .int 2, .int 3, .int 1], .tup false [.int 0, .int 1, .int 3, .int 2, .int 4], .tup false [.int 0, .int 2, .int 4, .int 1, .int 3], .tup false [.int 0, .int 3, .int 1, .int 4, .int 2]]]
def sm57 : PV := .tup false [.int 5, .tup false [.tup false [.int 0, .int 1, .int 2, .int 3, .int 4], .tup false [.int 0, .int 4, .int 2, .int 3, .int 1], .tup false [.int 0, .int 3, .int 1, .int 4, .int 2], .tup false [.int 0, .int 1, .int 3, .int 2, .int 4], .tup false [.int 0, .int 2, .int 4, .int 1, .int 3]]]
def sm58 : PV := .tup false [.int 5, .tup false [.tup false [.int 0, .int 1, .int 2, .int 3, .int 4], .tup false [.int 0, .int 4, .int 3, .int 1, .int 2], .tup false [.int 0, .int 1, .int 2, .int 4, .int 3], .tup false [.int 0, .int 2, .int 1, .int 3, .int 4], .tup false [.int 0, .int 3, .int 4, .int 2, .int 1]]]
def sm59 : PV := .tup false [.int 5, .tup false [.tup false [.int 0, .int 1, .int 2, .int 3, .int 4], .tup false [.int 0, .int 4, .int 3, .int 1, .int 2], .tup false [.int 0, .int 2, .int 1, .int 3, .int 4], .tup false [.int 0, .int 3, .int 4, .int 2, .int 1], .tup false [.int 0, .int 1, .int 2, .int 4, .int 3]]]
def sm60 : PV := .tup false [.int 5, .tup false [.tup false [.int 0, .int 1, .int 3, .int 2, .int 4], .tup false [.int 2, .int 3, .int 1, .int 0, .int 4], .tup false [.int 1, .int 0, .int 2, .int 3, .int 4], .tup false [.int 3, .int 2, .int 0, .int 1, .int 4], .tup false [.int 0, .int 1, .int 2, .int 3, .int 4]]]
def sm61 : PV := .tup false [.int 5, .tup false [.tup false [.int 0, .int 1, .int 3, .int 2, .int 4], .tup false [.int 3, .int 2, .int 0, .int 1, .int 4], .tup false [.int 2, .int 3, .int 1, .int 0, .int 4], .tup false [.int 1, .int 0, .int 2, .int 3, .int 4], .tup false [.int 0, .int 1, .int 2, .int 3, .int 4]]]
def sm62 : PV := .tup false [.int 5, .tup false [.tup false [.int 0, .int 2, .int 1, .int 3, .int 4], .tup false [.int 1, .int 3, .int 0, .int 2, .int 4], .tup false [.int 3, .int 1, .int 2, .int 0, .int 4], .tup false [.int 2, .int 0, .int 3, .int 1, .int 4], .tup false [.int 0, .int 1, .int 2, .int 3, .int 4]]]
def sm63 : PV := .tup false [.int 5, .tup false [.tup false [.int 0, .int 2, .int 1, .int 3, .int 4], .tup false [.int 3, .int 1, .int 2, .int 0, .int 4], .tup false [.int 2, .int 0, .int 3, .int 1, .int 4], .tup false [.int 1, .int 3, .int 0, .int 2, .int 4], .tup false [.int 0, .int 1, .int 2, .int 3, .int 4]]]
def sm64 : PV := .tup false [.int 5, .tup false [.tup false [.int 0, .int 3, .int 2, .int 1, .int 4], .tup false [.int 1, .int 2, .int 3, .int 0, .int 4], .tup false [.int 3, .int 0, .int 1, .int 2, .int 4], .tup false [.int 2, .int 1, .int 0, .int 3, .int 4], .tup false [.int 0, .int 1, .int 2, .int 3, .int 4]]]
def sm65 : PV := .tup false [.int 5, .tup false [.tup false [.int 0, .int 3, .int 2, .int 1, .int 4], .tup false [.int 2, .int 1, .int 0, .int 3, .int 4], .tup false [.int 1, .int 2, .int 3, .int 0, .int 4], .tup false [.int 3, .int 0, .int 1, .int 2, .int 4], .tup false [.int 0, .int 1, .int 2, .int 3, .int 4]]]
def sm66 : PV := .tup false [.int 5, .tup false [.tup false [.int 1, .int 0, .int 2, .int 3, .int 4], .tup false [.int 2, .int 3, .int 1, .int 0, .int 4], .tup false [.int 3, .int 2, .int 0, .int 1, .int 4], .tup false [.int 0, .int 1, .int 3, .int 2, .int 4], .tup false [.int 0, .int 1, .int 2, .int 3, .int 4]]]
def sm67 : PV := .tup false [.int 5, .tup false [.tup false [.int 1, .int 0, .int 2, .int 3, .int 4], .tup false [.int 3, .int 2, .int 0, .int 1, .int 4], .tup false [.int 0, .int 1, .int 3, .int 2, .int 4], .tup false [.int 2, .int 3, .int 1, .int 0, .int 4], .tup false [.int 0, .int 1, .int 2, .int 3, .int 4]]]
def sm68 : PV := .tup false [.int 5, .tup false [.tup false [.int 1, .int 2, .int 3, .int 0, .int 4], .tup false [.int 0, .int 3, .int 2, .int 1, .int 4], .tup false [.int 2, .int 1, .int 0, .int 3, .int 4], .tup false [.int 3, .int 0, .int 1, .int 2, .int 4], .tup false [.int 0, .int 1, .int 2, .int 3, .int 4]]]
def sm69 : PV := .tup false [.int 5, .tup false [.tup false [.int 1, .int 2, .int 3, .int 0, .int 4], .tup false [.int 3, .int 0, .int 1, .int 2, .int 4], .tup false [.int 0, .int 3, .int 2, .int 1, .int 4], .tup false [.int 2, .int 1, .int 0, .int 3, .int 4], .tup false [.int 0, .int 1, .int 2, .int 3, .int 4]]]
def sm70 : PV := .tup false [.int 5, .tup false [.tup false [.int 1, .int 3, .int 0, .int 2, .int 4], .tup false [.int 0, .int 2, .int 1, .int 3, .int 4], .tup false [.int 2, .int 0, .int 3, .int 1, .int 4], .tup false [.int 3, .int 1, .int 2, .int 0, .int 4], .tup false [.int 0, .int 1, .int 2, .int 3, .int 4]]]
def sm71 : PV := .tup false [.int 5, .tup false [.tup false [.int 1, .int 3, .int 0, .int 2, .int 4], .tup false [.int 2, .int 0, .int 3, .int 1, .int 4], .tup false [.int 3, .int 1, .int 2, .int 0, .int 4], .tup false [.int 0, .int 2, .int 1, .int 3, .int 4], .tup false [.int 0, .int 1, .int 2, .int 3, .int 4]]]
def sm72 : PV := .tup false [.int 5, .tup false [.tup false [.int 2, .int 0, .int 3, .int 1, .int 4], .tup false [.int 1, .int 3, .int 0, .int 2, .int 4], .tup false [.int 0, .int 2, .int 1, .int 3, .int 4], .tup false [.int 3, .int 1, .int 2, .int 0, .int 4], .tup false [.int 0, .int 1, .int 2, .int 3, .int 4]]]
def sm73 : PV := .tup false [.int 5, .tup false [.tup false [.int 2, .int 0, .int 3, .int 1, .int 4], .tup false [.int 3, .int 1, .int 2, .int 0, .int 4], .tup false [.int 1, .int 3, .int 0, .int 2, .int 4], .tup false [.int 0, .int 2, .int 1, .int 3, .int 4], .tup false [.int 0, .int 1, .int 2, .int 3, .int 4]]]
def sm74 : PV := .tup false [.int 5, .tup false [.tup false [.int 2, .int 1, .int 0, .int 3, .int 4], .tup false [.int 0, .int 3, .int 2, .int 1, .int 4], .tup false [.int 3, .int 0, .int 1, .int 2, .int 4], .tup false [.int 1, .int 2, .int 3, .int 0, .int 4], .tup false [.int 0, .int 1, .int 2, .int 3, .int 4]]]
def sm75 : PV := .tup false [.int 5, .tup false [.tup false [.int 2, .int 1, .int 0, .int 3, .int 4], .tup false [.int 3, .int 0, .int 1, .int 2, .int 4], .tup false [.int 1, .int 2, .int 3, .int 0, .int 4], .tup false [.int 0, .int 3, .int 2, .int 1, .int 4], .tup false [.int 0, .int 1, .int 2, .int 3, .int 4]]]
def sm76 : PV := .tup false [.int 5, .tup false [.tup false [.int 2, .int 3, .int 1, .int 0, .int 4], .tup false [.int 0, .int 1, .int 3, .int 2, .int 4], .tup false [.int 3, .int 2, .int 0, .int 1, .int 4], .tup false [.int 1, .int 0, .int 2, .int 3, .int 4], .tup false [.int 0, .int 1, .int 2, .int 3, .int 4]]]
def sm77 : PV := .tup false [.int 5, .tup false [.tup false [.int 2, .int 3, .int 1, .int 0, .int 4], .tup false [.int 1, .int 0, .int 2, .int 3, .int 4], .tup false [.int 0, .int 1, .int 3, .int 2, .int 4], .tup false [.int 3, .int 2, .int 0, .int 1, .int 4], .tup false [.int 0, .int 1, .int 2, .int 3, .int 4]]]
def sm78 : PV := .tup false [.int 5, .tup false [.tup false [.int 3, .int 0, .int 1, .int 2, .int 4], .tup false [.int 1, .int 2, .int 3, .int 0, .int 4], .tup false [.int 2, .int 1, .int 0, .int 3, .int 4], .tup false [.int 0, .int 3, .int 2, .int 1, .int 4], .tup false [.int 0, .int 1, .int 2, .int 3, .int 4]]]
def sm79 : PV := .tup false [.int 5, .tup false [.tup false [.int 3, .int 0, .int 1, .int 2, .int 4], .tup false [.int 2, .int 1, .int 0, .int 3, .int 4], .tup false [.int 0, .int 3, .int 2, .int 1, .int 4], .tup false [.int 1, .int 2, .int 3, .int 0, .int 4], .tup false [.int 0, .int 1, .int 2, .int 3, .int 4]]]
def sm80 : PV := .tup false [.int 5, .tup false [.tup false [.int 3, .int 1, .int 2, .int 0, .int 4], .tup false [.int 0, .int 2, .int 1, .int 3, .int 4], .tup false [.int 1, .int 3, .int 0, .int 2, .int 4], .tup false [.int 2, .int 0, .int 3, .int 1, .int 4], .tup false [.int 0, .int 1, .int 2, .int 3, .int 4]]]
def sm81 : PV := .tup false [.int 5, .tup false [.tup false [.int 3, .int 1, .int 2, .int 0, .int 4], .tup false [.int 2, .int 0, .int 3, .int 1, .int 4], .tup false [.int 0, .int 2, .int 1, .int 3, .int 4], .tup false [.int 1, .int 3, .int 0, .int 2, .int 4], .tup false [.int 0, .int 1, .int 2, .int 3, .int 4]]]
def sm82 : PV := .tup false [.int 5, .tup false [.tup false [.int 3, .int 2, .int 0, .int 1, .int 4], .tup false [.int 0, .int 1, .int 3, .int 2, .int 4], .tup false [.int 1, .int 0, .int 2, .int 3, .int 4], .tup false [.int 2, .int 3, .int 1, .int 0, .int 4], .tup false [.int 0, .int 1, .int 2, .int 3, .int 4]]]
def sm83 : PV := .tup false [.int 5, .tup false [.tup false [.int 3, .int 2, .int 0, .int 1, .int 4], .tup false [.int 1, .int 0, .int 2, .int 3, .int 4], .tup false [.int 2, .int 3, .int 1, .int 0, .int 4], .tup false [.int 0, .int 1, .int 3, .int 2, .int 4], .tup false [.int 0, .int 1, .int 2, .int 3, .int 4]]]
def S1 : Nat → Option Ev.Spec := upS noS 37 rollS
def S2 : Nat → Option Ev.Spec := upS S1 48 (genS cyTab)
def rq_6 : BT := (.nd 1344832579 .non (.nd 1109463179 .non (.nd 36930 .non (.nd 33290 .non (.nd 65 .non .lf .lf) .lf) (.nd 1095270483 .non (.nd 1094754387 .non .lf .lf) .lf)) (.nd 1241842755 .non (.nd 1241842307 .non (.nd 1212424723 .non .lf .lf) .lf) (.nd 1344803851 .non .lf .lf))) (.nd 2297440689029788 .non (.nd 1359512195 .non (.nd 1359483915 .non (.nd 1358996547 .non .lf .lf) .lf) (.nd 1359512643 .non .lf .lf)) (.nd 2297592891942412 .non (.nd 2297448207057564 .non (.nd 2297440703942868 .non .lf .lf) .lf) (.nd 2297646495040156 .non .lf .lf))))
def rq_7 : BT := (.nd 2328234582869084 .non (.nd 2301442136847372 .non (.nd 2301289919480532 .non (.nd 2297654013068380 .non (.nd 2297654013067932 .non .lf .lf) .lf) (.nd 2301289933934748 .non .lf .lf)) (.nd 2328227064841308 .non (.nd 2328227014607964 .non (.nd 2301501349564572 .non .lf .lf) .lf) (.nd 2328234532635740 .non .lf .lf))) (.nd 2328432820618332 .non (.nd 2328432802043412 .non (.nd 2328432770384988 .non (.nd 2328310682493132 .non .lf .lf) .lf) (.nd 2328432820617884 .non .lf .lf)) (.nd 2328440338646108 .non (.nd 2328440338645660 .non (.nd 2328440288412764 .non .lf .lf) .lf) (.nd 2335932993537228 .non .lf .lf))))
def rq_5 : BT := .nd 2297646495040604 .non rq_6 rq_7
def rq_9 : BT := (.nd 2543791437877404 .non (.nd 2366726837143180 .non (.nd 2362877633988180 .non (.nd 2362877606692436 .non (.nd 2336136870266060 .non .lf .lf) .lf) (.nd 2362877654861396 .non .lf .lf)) (.nd 2366845232099412 .non (.nd 2366845217186332 .non (.nd 2366787950027292 .non .lf .lf) .lf) (.nd 2543791423423188 .non .lf .lf))) (.nd 2547657579762884 .non (.nd 2547640653415068 .non (.nd 2543943626335812 .non (.nd 2543884487918292 .non .lf .lf) .lf) (.nd 2547640668328148 .non .lf .lf)) (.nd 2547775963934804 .non (.nd 2547775959806036 .non (.nd 2547731824414932 .non .lf .lf) .lf) (.nd 2547792871240772 .non .lf .lf))))
def rq_10 : BT := (.nd 2617045192355924 .non (.nd 2616909905006804 .non (.nd 2605517235131420 .non (.nd 2605379125089308 .non (.nd 2605313358402588 .non .lf .lf) .lf) (.nd 2616865761374292 .non .lf .lf)) (.nd 2616926816449604 .non (.nd 2616926816441540 .non (.nd 2616909905014868 .non .lf .lf) .lf) (.nd 2617045181571612 .non .lf .lf))) (.nd 2617062107919428 .non (.nd 2617062103790660 .non (.nd 2617045196484692 .non (.nd 2617045196476628 .non .lf .lf) .lf) (.nd 2617062107911364 .non .lf .lf)) (.nd 2640068247066132 .non (.nd 2640022199146004 .non (.nd 2639946108940932 .non .lf .lf) .lf) (.nd 2640068265641052 .non .lf .lf))))
def rq_8 : BT := .nd 2547792875369540 .non rq_9 rq_10
def rq_4 : BT := .nd 2335998760223948 .non rq_5 rq_8
def rq_13 : BT := (.nd 2851611508806852 .non (.nd 2828588424737412 .non (.nd 2820936003035228 .non (.nd 2647720660055108 .non (.nd 2647720660050628 .non .lf .lf) .lf) (.nd 2820936051204188 .non (.nd 2820936030330972 .non .lf .lf) .lf)) (.nd 2828710581437532 .non (.nd 2828634491232460 .non (.nd 2828588443312332 .non .lf .lf) .lf) (.nd 2851611493893772 .non .lf .lf))) (.nd 2863277565293636 .non (.nd 2863277565286020 .non (.nd 2851790929004172 .non (.nd 2851729873936924 .non .lf .lf) .lf) (.nd 2863277565289156 .non .lf .lf)) (.nd 2921016022050316 .non (.nd 2920924865963532 .non (.nd 2920863819137692 .non .lf .lf) .lf) (.nd 2921016022279748 .non .lf .lf))))
def rq_14 : BT := (.nd 2924865252501060 .non (.nd 2924772202460172 .non (.nd 2921016976487492 .non (.nd 2921016976258060 .non (.nd 2921016036963396 .non .lf .lf) .lf) (.nd 2924713064042652 .non .lf .lf)) (.nd 2924865252271628 .non (.nd 2924864327660612 .non (.nd 2924864327431180 .non .lf .lf) .lf) (.nd 2924865252275212 .non .lf .lf))) (.nd 2924865267184708 .non (.nd 2924865266955276 .non (.nd 2924865266951692 .non (.nd 2924865252504644 .non .lf .lf) .lf) (.nd 2924865267181124 .non .lf .lf)) (.nd 3101811473192132 .non (.nd 3101811458279052 .non (.nd 3101794561757396 .non .lf .lf) .lf) (.nd 3101868740351172 .non .lf .lf))))
def rq_12 : BT := .nd 2921016036733964 .non rq_13 rq_14
def rq_16 : BT := (.nd 3140216351732356 .non (.nd 3105785661960724 .non (.nd 3101946768798788 .non (.nd 3101946764670020 .non (.nd 3101929857364052 .non .lf .lf) .lf) (.nd 3105779083686028 .non .lf .lf)) (.nd 3132723696841236 .non (.nd 3132717118566540 .non (.nd 3105795059496004 .non .lf .lf) .lf) (.nd 3132733094376516 .non .lf .lf))) (.nd 3140422157743172 .non (.nd 3140346007885332 .non (.nd 3140223888335052 .non (.nd 3140223869760132 .non .lf .lf) .lf) (.nd 3140422157742724 .non .lf .lf)) (.nd 3167155340813892 .non (.nd 3140429675770948 .non (.nd 3140429675770500 .non .lf .lf) .lf) (.nd 3167214553531092 .non .lf .lf))))
def rq_17 : BT := (.nd 3171012124619844 .non (.nd 3167367710651460 .non (.nd 3167366771127364 .non (.nd 3167366770897932 .non (.nd 3167366756443716 .non .lf .lf) .lf) (.nd 3167367710422028 .non .lf .lf)) (.nd 3171010195338308 .non (.nd 3171002727543876 .non (.nd 3171002677310532 .non .lf .lf) .lf) (.nd 3171010245571652 .non .lf .lf))) (.nd 3171080709878852 .non (.nd 3171077891306564 .non (.nd 3171063798444116 .non (.nd 3171063798436052 .non .lf .lf) .lf) (.nd 3171080709870788 .non .lf .lf)) (.nd 3171199089913940 .non (.nd 3171199089905876 .non (.nd 3171199085785172 .non .lf .lf) .lf) (.nd 3171200025538700 .non .lf .lf))))
def rq_15 : BT := .nd 3167366756214284 .non rq_16 rq_17
def rq_11 : BT := .nd 3101929853235284 .non rq_12 rq_15
def rq_3 : BT := .nd 2647720660047492 .non rq_4 rq_11
def rq_21 : BT := (.nd 3171215986665028 .non (.nd 3171215951115332 .non (.nd 3171208483320900 .non (.nd 3171208483320452 .non (.nd 3171208433087556 .non .lf .lf) .lf) (.nd 3171215061824580 .non (.nd 3171215061595148 .non .lf .lf) .lf)) (.nd 3171215986435596 .non (.nd 3171215980475460 .non (.nd 3171215953179716 .non .lf .lf) .lf) (.nd 3171215986439180 .non .lf .lf))) (.nd 3171216001340612 .non (.nd 3171216001115660 .non (.nd 3171215997219908 .non (.nd 3171215986668612 .non .lf .lf) .lf) (.nd 3171216001119244 .non .lf .lf)) (.nd 3171216001345092 .non (.nd 3171216001344196 .non (.nd 3171216001341060 .non .lf .lf) .lf) (.nd 3171216001348228 .non .lf .lf))))
def rq_22 : BT := (.nd 352039183944240597185605 .non (.nd 351526111431252106163269 .non (.nd 351522785421428625912901 .non (.nd 351522659348059084960837 .non (.nd 351522659316790768841797 .non .lf .lf) .lf) (.nd 351525212857781866083397 .non .lf .lf)) (.nd 351526237535890080674885 .non (.nd 351526237535889963234373 .non (.nd 351526111431252223603781 .non .lf .lf) .lf) (.nd 352039183913934383100997 .non .lf .lf))) (.nd 355654856093939682915397 .non (.nd 355654729989301825844293 .non (.nd 352042730576569748829253 .non (.nd 352041737485231694427205 .non .lf .lf) .lf) (.nd 355654730094648783680581 .non .lf .lf)) (.nd 355658181998416205329477 .non (.nd 355656132965934617998405 .non (.nd 355654856199286640751685 .non .lf .lf) .lf) (.nd 355658182064800408941637 .non .lf .lf))))
def rq_20 : BT := .nd 3171216001348676 .non rq_21 rq_22
def rq_24 : BT := (.nd 360303577569249842050117 .non (.nd 356687905288226911433797 .non (.nd 355658308208400902796357 .non (.nd 355658308103054062400581 .non (.nd 355658182103763163165765 .non .lf .lf) .lf) (.nd 355658308208401020236869 .non .lf .lf)) (.nd 360303577468232211248197 .non (.nd 356691325772143899325509 .non (.nd 356689008670135617205317 .non .lf .lf) .lf) (.nd 360303577525475535369285 .non .lf .lf))) (.nd 384580233503675867345989 .non (.nd 360822088152813345584197 .non (.nd 360821126726170842379333 .non (.nd 360820102065375825507397 .non .lf .lf) .lf) (.nd 360822088184081661703237 .non .lf .lf)) (.nd 384582787044666964587589 .non (.nd 384581794109179927082053 .non (.nd 384580233533982081430597 .non .lf .lf) .lf) (.nd 385096758099857379570757 .non .lf .lf))))
def rq_25 : BT := (.nd 394393176340140591821893 .non (.nd 385099311672116792931397 .non (.nd 385099027945340004348997 .non (.nd 385098287149859712676933 .non (.nd 385097041857902484272197 .non .lf .lf) .lf) (.nd 385099027953998658417733 .non .lf .lf)) (.nd 392844627088279909577797 .non (.nd 392843523706371203806277 .non (.nd 385099311680775447000133 .non .lf .lf) .lf) (.nd 392846944190288191697989 .non .lf .lf))) (.nd 394394200879712866284613 .non (.nd 394394200879710752355397 .non (.nd 394393917152936077702213 .non (.nd 394393917152933963772997 .non .lf .lf) .lf) (.nd 394394200879712864449549 .non .lf .lf)) (.nd 394396186967146158502981 .non (.nd 394396186958489618363461 .non (.nd 394396186935879956313157 .non .lf .lf) .lf) (.nd 394396186967148272432197 .non .lf .lf))))
def rq_23 : BT := .nd 385096758131125695689797 .non rq_24 rq_25
def rq_19 : BT := .nd 355658182103763045725253 .non rq_20 rq_23
def rq_28 : BT := (.nd 398526397656861661082637 .non (.nd 397493348462572437910597 .non (.nd 394396470693925061014597 .non (.nd 394396470693925059179533 .non (.nd 394396470693922947085381 .non .lf .lf) .lf) (.nd 397492071715650767303749 .non .lf .lf)) (.nd 398526397656859666428997 .non (.nd 397494120892442066695237 .non (.nd 397494120853479312471109 .non .lf .lf) .lf) (.nd 398526397656860488512581 .non .lf .lf))) (.nd 422802281292739907826757 .non (.nd 421770004528322308092997 .non (.nd 421770004471078983971909 .non (.nd 398526397656861662917701 .non .lf .lf) .lf) (.nd 421770004572096614773829 .non .lf .lf)) (.nd 422804330469531207218245 .non (.nd 422803053722609536611397 .non (.nd 422802281331702662050885 .non .lf .lf) .lf) (.nd 425900215218033702089797 .non .lf .lf))))
def rq_29 : BT := (.nd 435199644054537329849413 .non (.nd 427451775096903237514253 .non (.nd 427451775096901242860613 .non (.nd 425903225845041382700101 .non (.nd 425902201305471222166597 .non .lf .lf) .lf) (.nd 427451775096902064944197 .non .lf .lf)) (.nd 435198115035322261845061 .non (.nd 435197090513065181590597 .non (.nd 427451775096903239349317 .non .lf .lf) .lf) (.nd 435199644054056278832197 .non .lf .lf))) (.nd 435713615140515009934405 .non (.nd 435199659847442239730757 .non (.nd 435199644085324594951237 .non (.nd 435199644084843543934021 .non .lf .lf) .lf) (.nd 435199659847923290747973 .non .lf .lf)) (.nd 435716152919388462396485 .non (.nd 435716152918907411379269 .non (.nd 435714608076002047439941 .non .lf .lf) .lf) (.nd 435716168650718842074181 .non .lf .lf))))
def rq_27 : BT := .nd 425900215249302018208837 .non rq_28 rq_29
def rq_31 : BT := (.nd 435716168681506107176005 .non (.nd 435716168680904826433621 .non (.nd 435716168651200832615493 .non (.nd 435716168651200830780429 .non (.nd 435716168651199893091397 .non .lf .lf) .lf) (.nd 435716168680904793403477 .non .lf .lf)) (.nd 435716168681505167651909 .non (.nd 435716168681385844421141 .non (.nd 435716168680964924780685 .non .lf .lf) .lf) (.nd 435716168681506107175557 .non .lf .lf))) (.nd 435716168681987156358157 .non (.nd 435716168681986218669125 .non (.nd 435716168681927028651077 .non (.nd 435716168681927026816013 .non .lf .lf) .lf) (.nd 435716168681987125163077 .non .lf .lf)) (.nd 459474030305591840355397 .non (.nd 435716168681987158193221 .non (.nd 435716168681987158192773 .non .lf .lf) .lf) (.nd 459474314001100312818757 .non .lf .lf))))
def rq_32 : BT := (.nd 463608496896955063088197 .non (.nd 459476583855241591665733 .non (.nd 459476300128464803083333 .non (.nd 459476300119806149014597 .non (.nd 459475275459011132142661 .non .lf .lf) .lf) (.nd 459476583846582937596997 .non .lf .lf)) (.nd 459993092689305459110981 .non (.nd 459992935058507990971461 .non (.nd 459992824716949763273797 .non .lf .lf) .lf) (.nd 463608386555396835390533 .non .lf .lf))) (.nd 464640269219247356523589 .non (.nd 464638220081418811356229 .non (.nd 464638093976780954285125 .non (.nd 463608654527752531227717 .non .lf .lf) .lf) (.nd 464638220120381565580357 .non .lf .lf)) (.nd 464641546091242409047109 .non (.nd 464641546091242407212045 .non (.nd 464641546091242291606597 .non .lf .lf) .lf) (.nd 464641672195880148677701 .non .lf .lf))))
def rq_30 : BT := .nd 459474314032368628937797 .non rq_31 rq_32
def rq_26 : BT := .nd 435716168650719781598277 .non rq_27 rq_30
def rq_18 : BT := .nd 394396470685266406945861 .non rq_19 rq_26
def rq_2 : BT := .nd 3171206603813396 .non rq_3 rq_18
def rq_37 : BT := (.nd 468770164754638969123909 .non (.nd 468257218271247591420997 .non (.nd 468254664699950280094789 .non (.nd 468253671608612225692741 .non (.nd 464641672195880266118213 .non .lf .lf) .lf) (.nd 468257218240941377336389 .non (.nd 468257218240460326319173 .non .lf .lf) .lf)) (.nd 468257234034327338234949 .non (.nd 468257234033846287217733 .non (.nd 468257218271728642438213 .non .lf .lf) .lf) (.nd 468770164649292011287621 .non .lf .lf))) (.nd 468771189327402222367813 .non (.nd 468770322384474217788485 .non (.nd 468770290859276826195013 .non (.nd 468770290753929868358725 .non .lf .lf) .lf) (.nd 468771189327400108438597 .non .lf .lf)) (.nd 468771473054179009115149 .non (.nd 468771473054176897020997 .non (.nd 468771425766382923560005 .non .lf .lf) .lf) (.nd 468771473054179010950213 .non .lf .lf))))
def rq_38 : BT := (.nd 468773297571129459618829 .non (.nd 468773295604172161418333 .non (.nd 468773295600744375657997 .non (.nd 468773295591484440838813 .non (.nd 468773295591003509100757 .non .lf .lf) .lf) (.nd 468773295604172161417885 .non .lf .lf)) (.nd 468773297561388358173397 .non (.nd 468773295604653212435549 .non (.nd 468773295604653212435101 .non .lf .lf) .lf) (.nd 468773297561388473782429 .non .lf .lf))) (.nd 468773311354083538502749 .non (.nd 468773311353602487485533 .non (.nd 468773311353602085618781 .non (.nd 468773297574917802430621 .non .lf .lf) .lf) (.nd 468773311354083136635997 .non .lf .lf)) (.nd 468773311366770708583957 .non (.nd 468773311366770455348317 .non (.nd 468773311358954016743629 .non .lf .lf) .lf) (.nd 468773311366770857214621 .non .lf .lf))))
def rq_36 : BT := .nd 468773295591003389821597 .non rq_37 rq_38
def rq_40 : BT := (.nd 468773331057932820153997 .non (.nd 468773315299062141289677 .non (.nd 468773311367251908232285 .non (.nd 468773311367251908231837 .non (.nd 468773311367251506365533 .non .lf .lf) .lf) (.nd 468773315294853073339597 .non .lf .lf)) (.nd 468773329087548070168149 .non (.nd 468773329087547851802197 .non (.nd 468773315307901183984845 .non .lf .lf) .lf) (.nd 468773329087548237153877 .non .lf .lf))) (.nd 468773421695641364336797 .non (.nd 468773331065509261750357 .non (.nd 468773331065509142471197 .non (.nd 468773331061841590886941 .non .lf .lf) .lf) (.nd 468773421695641248727765 .non .lf .lf)) (.nd 468773423666026213409437 .non (.nd 468773421705382234564165 .non (.nd 468773421701594486276821 .non .lf .lf) .lf) (.nd 468773423666026332688597 .non .lf .lf))))
def rq_41 : BT := (.nd 468773459131873431261397 .non (.nd 468773423675767351555141 .non (.nd 468773423674685019795541 .non (.nd 468773423674684986765397 .non (.nd 468773423671859076272341 .non .lf .lf) .lf) (.nd 468773423675767318524997 .non .lf .lf)) (.nd 468773453230639900660765 .non (.nd 468773453221800857965597 .non (.nd 468773453217591790015517 .non .lf .lf) .lf) (.nd 468773459129047454724181 .non .lf .lf))) (.nd 468773459140532052308053 .non (.nd 468773459132955763029061 .non (.nd 468773459132955763020997 .non (.nd 468773459131873431269461 .non .lf .lf) .lf) (.nd 468773459140531966059037 .non .lf .lf)) (.nd 468773459141612303168581 .non (.nd 468773459140532085338197 .non (.nd 468773459140532085330133 .non .lf .lf) .lf) (.nd 468773459141614384067653 .non .lf .lf))))
def rq_39 : BT := .nd 468773423667108664448197 .non rq_40 rq_41
def rq_35 : BT := .nd 468773311366770857215069 .non rq_36 rq_39
def rq_44 : BT := (.nd 468773563563359252652125 .non (.nd 468773474896035509835397 .non (.nd 468773470955265573131797 .non (.nd 468773470950395170140805 .non (.nd 468773459141614417097797 .non .lf .lf) .lf) (.nd 468773470958212159243357 .non (.nd 468773470958212010612245 .non .lf .lf) .lf)) (.nd 468773563563358867300445 .non (.nd 468773474896035509843013 .non (.nd 468773474896035509838533 .non .lf .lf) .lf) (.nd 468773563563359085666397 .non .lf .lf))) (.nd 468773579318862510163597 .non (.nd 468773567504129022369997 .non (.nd 468773567501182584889549 .non (.nd 468773567501182436258437 .non .lf .lf) .lf) (.nd 468773567508999425360989 .non .lf .lf)) (.nd 468773579330347140777613 .non (.nd 468773579326438832480797 .non (.nd 468773579318862629442757 .non .lf .lf) .lf) (.nd 468773585237593737533061 .non .lf .lf))))
def rq_45 : BT := (.nd 468773616658406390772805 .non (.nd 468773614793368264648261 .non (.nd 468773614787535519229453 .non (.nd 468773614783627276976797 .non (.nd 468773585237593737540677 .non .lf .lf) .lf) (.nd 468773614793368262813197 .non .lf .lf)) (.nd 468773614793428509799437 .non (.nd 468773614793368382092357 .non (.nd 468773614793368380257293 .non .lf .lf) .lf) (.nd 468773614793428511634501 .non .lf .lf))) (.nd 468773616763753229329933 .non (.nd 468773616763693217231885 .non (.nd 468773616757800109224973 .non (.nd 468773616754012360937629 .non .lf .lf) .lf) (.nd 468773616763693219066949 .non .lf .lf)) (.nd 468773616763753231168581 .non (.nd 468773616763753231164997 .non (.nd 468773616763753229333517 .non .lf .lf) .lf) (.nd 468773616763753346770445 .non .lf .lf))))
def rq_43 : BT := .nd 468773585237593737536197 .non rq_44 rq_45
def rq_47 : BT := (.nd 468773707402544140137541 .non (.nd 468773707393885453030597 .non (.nd 468773707392803121270997 .non (.nd 468773616763753348609093 .non (.nd 468773616763753348605509 .non .lf .lf) .lf) (.nd 468773707393885333751437 .non .lf .lf)) (.nd 468773707401461808377941 .non (.nd 468773707401461775347797 .non (.nd 468773707397553004614853 .non .lf .lf) .lf) (.nd 468773707402544107107397 .non .lf .lf))) (.nd 468773723164541522162197 .non (.nd 468773709372868977112133 .non (.nd 468773709372267663340053 .non (.nd 468773709371846743699597 .non .lf .lf) .lf) (.nd 468773723164120602521741 .non .lf .lf)) (.nd 468773727092623738286725 .non (.nd 468773727092142687269509 .non (.nd 468773723165142835934277 .non .lf .lf) .lf) (.nd 468773727092623886917837 .non .lf .lf))))
def rq_48 : BT := (.nd 468773740898006239163461 .non (.nd 468773740884476793071173 .non (.nd 468773727105792509883013 .non (.nd 468773727105311458866245 .non (.nd 468773727105311458865797 .non .lf .lf) .lf) (.nd 468773727105792509883461 .non .lf .lf)) (.nd 468773740898006121719365 .non (.nd 468773740898006119884301 .non (.nd 468773740888265135882965 .non .lf .lf) .lf) (.nd 468773740898006237328397 .non .lf .lf))) (.nd 468773742824616898999365 .non (.nd 468773742763044247843909 .non (.nd 468773740898066368705605 .non (.nd 468773740898066366870541 .non .lf .lf) .lf) (.nd 468773742767373574878277 .non .lf .lf)) (.nd 468773742837603940578373 .non (.nd 468773742837123829085253 .non (.nd 468773742837122889561157 .non .lf .lf) .lf) (.nd 468773742837604878267405 .non .lf .lf))))
def rq_46 : BT := .nd 468773727100440578758165 .non rq_47 rq_48
def rq_42 : BT := .nd 468773616763753346774029 .non rq_43 rq_46
def rq_34 : BT := .nd 468773459141614417089733 .non rq_35 rq_42
def rq_52 : BT := (.nd 468773742867308840890453 .non (.nd 468773742858650219843797 .non (.nd 468773742855222434083909 .non (.nd 468773742854741784933445 .non (.nd 468773742854741383066693 .non .lf .lf) .lf) (.nd 468773742855343095034949 .non (.nd 468773742855222835950661 .non .lf .lf) .lf)) (.nd 468773742859732551603397 .non (.nd 468773742859552162985029 .non (.nd 468773742858650219851861 .non .lf .lf) .lf) (.nd 468773742859732551611461 .non .lf .lf))) (.nd 468773742867909215138885 .non (.nd 468773742867368972267661 .non (.nd 468773742867308873920597 .non (.nd 468773742867308873912533 .non .lf .lf) .lf) (.nd 468773742867789891908117 .non .lf .lf)) (.nd 468773742867910154662981 .non (.nd 468773742867910154662533 .non (.nd 468773742867909752796229 .non .lf .lf) .lf) (.nd 468773742868331074302989 .non .lf .lf))))
def rq_53 : BT := (.nd 468773742868391088236101 .non (.nd 468773742868390803813445 .non (.nd 468773742868390031275077 .non (.nd 468773742868389209191493 .non (.nd 468773742868389091750981 .non .lf .lf) .lf) (.nd 468773742868390266156101 .non .lf .lf)) (.nd 468773742868391086401037 .non (.nd 468773742868391038694469 .non (.nd 468773742868390820328517 .non .lf .lf) .lf) (.nd 468773742868391086404621 .non .lf .lf))) (.nd 468773742868391205672133 .non (.nd 468773742868391203841549 .non (.nd 468773742868391172650053 .non (.nd 468773742868391088239685 .non .lf .lf) .lf) (.nd 468773742868391203845133 .non .lf .lf)) (.nd 468773742868391205676613 .non (.nd 468773742868391205675717 .non (.nd 468773742868391205672581 .non .lf .lf) .lf) (.nd 468773742868391205679749 .non .lf .lf))))
def rq_51 : BT := .nd 468773742868331076138053 .non rq_52 rq_53
def rq_55 : BT := (.nd 3390417494935509657764924774298694 .non (.nd 3390413923755015595651908173706254 .non (.nd 3390413788359003940265034962580494 .non (.nd 3390413788354807289979376753849414 .non (.nd 3390413788354807289979376739169294 .non .lf .lf) .lf) (.nd 3390413788359003940265034977260614 .non .lf .lf)) (.nd 3390416530198566215857422936192070 .non (.nd 3390416530198566215857422921511950 .non (.nd 3390413923755015595651908188386374 .non .lf .lf) .lf) (.nd 3390417494935509657764924759618574 .non .lf .lf))) (.nd 3390417630335717965407781031130126 .non (.nd 3390417630335717963437456194155534 .non (.nd 3390417494935509659735249611273286 .non (.nd 3390417494935509659735249596593166 .non .lf .lf) .lf) (.nd 3390417630335717963437456208835654 .non .lf .lf)) (.nd 3394850582380632131339972249007174 .non (.nd 3394850582380632131339972234327054 .non (.nd 3390417630335717965407781045810246 .non .lf .lf) .lf) (.nd 3394850582384699653924533281633294 .non .lf .lf))))
def rq_56 : BT := (.nd 3425908140561406020864140715111494 .non (.nd 3425908005161197715191609265894414 .non (.nd 3394854390507423236827973965722638 .non (.nd 3394853324228458579802579478656070 .non (.nd 3394853324228458579802579463975950 .non .lf .lf) .lf) (.nd 3394854390507423236827973980402758 .non .lf .lf)) (.nd 3425908005175337144524107651888198 .non (.nd 3425908005175337144524107637208078 .non (.nd 3425908005161197715191609280574534 .non .lf .lf) .lf) (.nd 3425908140561406020864140700431374 .non .lf .lf))) (.nd 3425911711727760653644658915030030 .non (.nd 3425909511496908416369837921940494 .non (.nd 3425908140575545450196639086425158 .non (.nd 3425908140575545450196639071745038 .non .lf .lf) .lf) (.nd 3425909511496908416369837936620614 .non .lf .lf)) (.nd 3425911711736670450981799617508422 .non (.nd 3425911711736670450981799602828302 .non (.nd 3425911711727760653644658929710150 .non .lf .lf) .lf) (.nd 3425911711741900081006832449369102 .non .lf .lf))))
def rq_54 : BT := .nd 3394850582384699653924533296313414 .non rq_55 rq_56
def rq_50 : BT := .nd 468773742868391205680197 .non rq_51 rq_54
def rq_59 : BT := (.nd 3434781728613055703585331705427014 .non (.nd 3425911847142108386679363883906062 .non (.nd 3425911847127968959317190349566990 .non (.nd 3425911711741900082977157301023814 .non (.nd 3425911711741900082977157286343694 .non .lf .lf) .lf) (.nd 3425911847127968959317190364247110 .non .lf .lf)) (.nd 3425911847142108388649688735560774 .non (.nd 3425911847142108388649688720880654 .non (.nd 3425911847142108386679363898586182 .non .lf .lf) .lf) (.nd 3434781728613055703585331690746894 .non .lf .lf))) (.nd 3465839286793829593109500156851214 .non (.nd 3434785401329695692828764448109582 .non (.nd 3434782913360358925921922917479494 .non (.nd 3434782913360358925921922902799374 .non .lf .lf) .lf) (.nd 3434785401329695692828764462789702 .non .lf .lf)) (.nd 3465839286801512662016200199779398 .non (.nd 3465839286801512662016200185099278 .non (.nd 3465839286793829593109500171531334 .non .lf .lf) .lf) (.nd 3465839286807387950003676677288974 .non .lf .lf))))
def rq_60 : BT := (.nd 3674368606003529614472927396639814 .non (.nd 3470278213364800265708576016053262 .non (.nd 3470277180954481963228535652234254 .non (.nd 3470276080819654434470095666689094 .non (.nd 3470276080819654434470095652008974 .non .lf .lf) .lf) (.nd 3470277180954481963228535666914374 .non .lf .lf)) (.nd 3470278213368996915994234254144582 .non (.nd 3470278213368996915994234239464462 .non (.nd 3470278213364800265708576030733382 .non .lf .lf) .lf) (.nd 3674368606003529614472927381959694 .non .lf .lf))) (.nd 3674371347847288540350973564302350 .non (.nd 3674370281589242411307009796617230 .non (.nd 3674368606007597137057488443946054 .non (.nd 3674368606007597137057488429265934 .non .lf .lf) .lf) (.nd 3674370281589242411307009811297350 .non .lf .lf)) (.nd 3678805400029225328132425715692614 .non (.nd 3678805400029225328132425701012494 .non (.nd 3674371347847288540350973578982470 .non .lf .lf) .lf) (.nd 3678805400033421978418083924423694 .non .lf .lf))))
def rq_58 : BT := .nd 3465839286807387950003676691969094 .non rq_59 rq_60
def rq_62 : BT := (.nd 3678808141877180904296130121446470 .non (.nd 3678807837227874356976347197617166 .non (.nd 3678807041760947684697527568184334 .non (.nd 3678805704682728525737866848252998 .non (.nd 3678805704682728525737866833572878 .non .lf .lf) .lf) (.nd 3678807041760947684697527582864454 .non .lf .lf)) (.nd 3678807837229036501852990914049094 .non (.nd 3678807837229036501852990899368974 .non (.nd 3678807837227874356976347212297286 .non .lf .lf) .lf) (.nd 3678808141877180904296130106766350 .non .lf .lf))) (.nd 3745357310420794598827016351790094 .non (.nd 3745356125673491376490425139737614 .non (.nd 3678808141878343049172773823198278 .non (.nd 3678808141878343049172773808518158 .non .lf .lf) .lf) (.nd 3745356125673491376490425154417734 .non .lf .lf)) (.nd 3745359798390131365733857911780422 .non (.nd 3745359798390131365733857897100302 .non (.nd 3745357310420794598827016366470214 .non .lf .lf) .lf) (.nd 3758666592379711684488607026263054 .non .lf .lf))))
def rq_63 : BT := (.nd 3758667692498269158336166863712790 .non (.nd 3758667692498269122908802837263374 .non (.nd 3758667387848962611054866993656846 .non (.nd 3758667387848962575589019942794310 .non (.nd 3758667387848962575589019928114190 .non .lf .lf) .lf) (.nd 3758667387848962611054867008336966 .non .lf .lf)) (.nd 3758667692498269158305380684935254 .non (.nd 3758667692498269158305380420694102 .non (.nd 3758667692498269122908802851943494 .non .lf .lf) .lf) (.nd 3758667692498269158309228726071438 .non .lf .lf))) (.nd 3758667692498269158374649653244998 .non (.nd 3758667692498269158370801612108814 .non (.nd 3758667692498269158343863474467910 .non (.nd 3758667692498269158343863474467462 .non .lf .lf) .lf) (.nd 3758667692498269158370801626788934 .non .lf .lf)) (.nd 3758667692498269158374649917486150 .non (.nd 3758667692498269158374649917485702 .non (.nd 3758667692498269158374649902806030 .non .lf .lf) .lf) (.nd 3758669825039218303861624977896462 .non .lf .lf))))
def rq_61 : BT := .nd 3758666592379711684488607040943174 .non rq_62 rq_63
def rq_57 : BT := .nd 3678805400033421978418083939103814 .non rq_58 rq_61
def rq_49 : BT := .nd 3425911711741900081006832464049222 .non rq_50 rq_57
def rq_33 : BT := .nd 468773742837604880102469 .non rq_34 rq_49
def rq_1 : BT := .nd 464641672195880264283149 .non rq_2 rq_33
def rq_69 : BT := (.nd 3758670129692721501397796628344918 .non (.nd 3758669825043414954147283215987782 .non (.nd 3758669825043414918681436135765006 .non (.nd 3758669825042252809270639514235974 .non (.nd 3758669825042252809270639499555854 .non .lf .lf) .lf) (.nd 3758669825043414954147283201307662 .non (.nd 3758669825043414918681436150445126 .non .lf .lf) .lf)) (.nd 3758670129692721466001219044914190 .non (.nd 3758670129691559356590422423385158 .non (.nd 3758670129691559356590422408705038 .non .lf .lf) .lf) (.nd 3758670129692721466001219059594310 .non .lf .lf))) (.nd 3758670129692721501436279682118726 .non (.nd 3758670129692721501428583071363606 .non (.nd 3758670129692721501401644933722254 .non (.nd 3758670129692721501397796892586070 .non .lf .lf) .lf) (.nd 3758670129692721501436279682118278 .non .lf .lf)) (.nd 3758670129692721501467065860895814 .non (.nd 3758670129692721501463217834439750 .non (.nd 3758670129692721501463217819759630 .non .lf .lf) .lf) (.nd 3758670129692721501467066110456846 .non .lf .lf))))
def rq_70 : BT := (.nd 3794162044704867853793566798525454 .non (.nd 3785288456653218171072375822890054 .non (.nd 3785287085734502376709311495025734 .non (.nd 3785287085734502376709311480345614 .non (.nd 3758670129692721501467066125136966 .non .lf .lf) .lf) (.nd 3785288456653218171072375808209934 .non .lf .lf)) (.nd 3785289285984723675311988528264206 .non (.nd 3785289285979494043316630859428934 .non (.nd 3785289285979494043316630844748814 .non .lf .lf) .lf) (.nd 3785289285984723675311988542944326 .non .lf .lf))) (.nd 3794162044704867887219819809222742 .non (.nd 3794162044704867867585840672027718 .non (.nd 3794162044704867867585840657347598 .non (.nd 3794162044704867853793566813205574 .non .lf .lf) .lf) (.nd 3794162044704867887219819544981590 .non .lf .lf)) (.nd 3794162044704867887258302598754950 .non (.nd 3794162044704867887250605988000278 .non (.nd 3794162044704867887223667850358926 .non .lf .lf) .lf) (.nd 3794162044704867887258302598755398 .non .lf .lf))))
def rq_68 : BT := .nd 3758670129692721501467066125136518 .non rq_69 rq_70
def rq_72 : BT := (.nd 3993817775872861003007840572814350 .non (.nd 3794162044704867887289089041773638 .non (.nd 3794162044704867887289089027093518 .non (.nd 3794162044704867887289088777532486 .non (.nd 3794162044704867887285240751076422 .non .lf .lf) .lf) (.nd 3794162044704867887289089041773190 .non .lf .lf)) (.nd 3993817775866985715020364080624654 .non (.nd 3993817775859302646113664067056710 .non (.nd 3993817775859302646113664052376590 .non .lf .lf) .lf) (.nd 3993817775866985715020364095304774 .non .lf .lf))) (.nd 4002690534592359525497300049081414 .non (.nd 4002690534587129893501942365566022 .non (.nd 4002690534587129893501942350885902 .non (.nd 3993817775872861003007840587494470 .non .lf .lf) .lf) (.nd 4002690534592359525497300034401294 .non .lf .lf)) (.nd 4002692734837351192104619398804494 .non (.nd 4002691363918635397741555085620294 .non (.nd 4002691363918635397741555070940174 .non .lf .lf) .lf) (.nd 4002692734837351192104619413484614 .non .lf .lf))))
def rq_73 : BT := (.nd 4042622510151058969986914527360014 .non (.nd 4029312128073584445905128056566854 .non (.nd 4029309995532635264952305915933766 .non (.nd 4029309995532635264952305901253646 .non (.nd 4029309995528438614666647692522566 .non .lf .lf) .lf) (.nd 4029312128073584445905128041886734 .non .lf .lf)) (.nd 4042622510151058956194640668537870 .non (.nd 4029313228192141884325323867567174 .non (.nd 4029313228192141884325323852887054 .non .lf .lf) .lf) (.nd 4042622510151058956194640683217990 .non .lf .lf))) (.nd 4042622510151058989651679858012694 .non (.nd 4042622510151058989620893679235158 .non (.nd 4042622510151058989620893414994006 .non (.nd 4042622510151058969986914542040134 .non .lf .lf) .lf) (.nd 4042622510151058989624741720371342 .non .lf .lf)) (.nd 4042622510151058989686314606408718 .non (.nd 4042622510151058989659376468767814 .non (.nd 4042622510151058989659376468767366 .non .lf .lf) .lf) (.nd 4042622510151058989686314621088838 .non .lf .lf))))
def rq_71 : BT := .nd 4029309995528438614666647677842446 .non rq_72 rq_73
def rq_67 : BT := .nd 3794162044704867887285240736396302 .non rq_68 rq_71
def rq_76 : BT := (.nd 4109174420538496154246395557459014 .non (.nd 4109172778810905884116403310965774 .non (.nd 4042622510151058989690162911786054 .non (.nd 4042622510151058989690162911785606 .non (.nd 4042622510151058989690162897105934 .non .lf .lf) .lf) (.nd 4109171678694672664517800787063878 .non (.nd 4109171678694672664517800772383758 .non .lf .lf) .lf)) (.nd 4109174420538431590395846969406534 .non (.nd 4109174420538431590395846954726414 .non (.nd 4109172778810905884116403325645894 .non .lf .lf) .lf) (.nd 4109174420538496154246395542778894 .non .lf .lf))) (.nd 4109174437467525151435765035971598 .non (.nd 4109174420542628240681505178137614 .non (.nd 4109174420542563676830956604765254 .non (.nd 4109174420542563676830956590085134 .non .lf .lf) .lf) (.nd 4109174420542628240681505192817734 .non .lf .lf)) (.nd 4109174437467589715286313638704198 .non (.nd 4109174437467589715286313624024078 .non (.nd 4109174437467525151435765050651718 .non .lf .lf) .lf) (.nd 4113608472724565028462957314847758 .non .lf .lf))))
def rq_77 : BT := (.nd 4113611214564191883668492572308550 .non (.nd 4113611197643427043586743639356430 .non (.nd 4113611197643362479736195051303950 .non (.nd 4113609538982611157506921097212998 .non (.nd 4113609538982611157506921082532878 .non .lf .lf) .lf) (.nd 4113611197643362479736195065984070 .non .lf .lf)) (.nd 4113611214564191867905893876511814 .non (.nd 4113611214564191867905893861831694 .non (.nd 4113611197643427043586743654036550 .non .lf .lf) .lf) (.nd 4113611214564191883668492557628430 .non .lf .lf))) (.nd 4113611214564256447453619968946318 .non (.nd 4113611214564256447449771663568982 .non (.nd 4113611214564256431756442464564294 .non (.nd 4113611214564256431756442449884174 .non .lf .lf) .lf) (.nd 4113611214564256447449771927810134 .non .lf .lf)) (.nd 4113611214564256447488254717342790 .non (.nd 4113611214564256447488254717342342 .non (.nd 4113611214564256447480558106587670 .non .lf .lf) .lf) (.nd 4113611214564256447515192854983694 .non .lf .lf))))
def rq_75 : BT := .nd 4113608472724565028462957329527878 .non rq_76 rq_77
def rq_79 : BT := (.nd 4113611214568159519126913121911902 .non (.nd 4113611214568159518284134244287134 .non (.nd 4113611214564256447519041160360582 .non (.nd 4113611214564256447519041145680910 .non (.nd 4113611214564256447519040896119878 .non .lf .lf) .lf) (.nd 4113611214564256447519041160361030 .non .lf .lf)) (.nd 4113611214568159518907557337245198 .non (.nd 4113611214568159518314920687305374 .non (.nd 4113611214568159518284135198494934 .non .lf .lf) .lf) (.nd 4113611214568159519126913121911454 .non .lf .lf))) (.nd 4113611214568160527717723098461198 .non (.nd 4113611214568160527094299080655574 .non (.nd 4113611214568159519157699564930142 .non (.nd 4113611214568159519157699564929694 .non .lf .lf) .lf) (.nd 4113611214568160527094300005503134 .non .lf .lf)) (.nd 4113611214568167588734669707150430 .non (.nd 4113611214568167588734666492216414 .non (.nd 4113611214568160527960166865703070 .non .lf .lf) .lf) (.nd 4113611214568167588765452935234654 .non .lf .lf))))
def rq_80 : BT := (.nd 4113611214568169606655162956776654 .non (.nd 4113611214568167589577445369840734 .non (.nd 4113611214568167589577444180760086 .non (.nd 4113611214568167589577442154906718 .non (.nd 4113611214568167589077167579209934 .non .lf .lf) .lf) (.nd 4113611214568167589577445369840286 .non .lf .lf)) (.nd 4113611214568167589608231812858974 .non (.nd 4113611214568167589608231812858526 .non (.nd 4113611214568167589608228597924958 .non .lf .lf) .lf) (.nd 4113611214568169606385782607971534 .non .lf .lf))) (.nd 4113611214568177676867101298919054 .non (.nd 4113611214568176668056938209478230 .non (.nd 4113611214568176668056936462550614 .non (.nd 4113611214568169607220861689267406 .non .lf .lf) .lf) (.nd 4113611214568176668056939545364054 .non .lf .lf)) (.nd 4113611214568177677351986880983126 .non (.nd 4113611214568177677351985926775326 .non (.nd 4113611214568177677117242998137374 .non .lf .lf) .lf) (.nd 4113611214568224082134682847019734 .non .lf .lf))))
def rq_78 : BT := .nd 4113611214568167588765456150168670 .non rq_79 rq_80
def rq_74 : BT := .nd 4113611214564256447515192869663814 .non rq_75 rq_78
def rq_66 : BT := .nd 4042622510151058989690162647544902 .non rq_67 rq_74
def rq_84 : BT := (.nd 4113611214568240222827940804957214 .non (.nd 4113611214568225091318134229831894 .non (.nd 4113611214568225090944847654027934 .non (.nd 4113611214568224082758105939977798 .non (.nd 4113611214568224082515666929058518 .non .lf .lf) .lf) (.nd 4113611214568225091014117840786630 .non (.nd 4113611214568225090944848608235734 .non .lf .lf) .lf)) (.nd 4113611214568225091568271701193798 .non (.nd 4113611214568225091499002732884054 .non (.nd 4113611214568225091499002468642902 .non .lf .lf) .lf) (.nd 4113611214568225091568271965434950 .non .lf .lf))) (.nd 4113611214568243249458546430324822 .non (.nd 4113611214568243249277677663039574 .non (.nd 4113611214568240223663019886253086 .non (.nd 4113611214568240223097321153762334 .non .lf .lf) .lf) (.nd 4113611214568243249458546430316758 .non .lf .lf)) (.nd 4113611214568243250012699336516126 .non (.nd 4113611214568243249527815662875718 .non (.nd 4113611214568243249527815662867654 .non .lf .lf) .lf) (.nd 4113611214568243250012700026482774 .non .lf .lf))))
def rq_85 : BT := (.nd 4113611214568251320009134353818310 .non (.nd 4113611214568249302077093853934214 .non (.nd 4113611214568243250081969523266758 .non (.nd 4113611214568243250081969259033670 .non (.nd 4113611214568243250012700290723926 .non .lf .lf) .lf) (.nd 4113611214568243250081969523274822 .non .lf .lf)) (.nd 4113611214568249302577372833645662 .non (.nd 4113611214568249302577371644565014 .non (.nd 4113611214568249302388804681078294 .non .lf .lf) .lf) (.nd 4113611214568251320009134353815174 .non .lf .lf))) (.nd 4113611214568298733898313510564486 .non (.nd 4113611214568296716466551990394974 .non (.nd 4113611214568296716466550243467358 .non (.nd 4113611214568251320009134353822790 .non .lf .lf) .lf) (.nd 4113611214568296716466553326280798 .non .lf .lf)) (.nd 4113611214568298734398592490275934 .non (.nd 4113611214568298734086881663131854 .non (.nd 4113611214568298733898314699645134 .non .lf .lf) .lf) (.nd 4113611214568304786462986053486222 .non .lf .lf))))
def rq_83 : BT := .nd 4113611214568243250012700290715862 .non rq_84 rq_85
def rq_87 : BT := (.nd 4113611214568322945530838675502094 .non (.nd 4113611214568307813378365190452294 .non (.nd 4113611214568307813378365190444678 .non (.nd 4113611214568304787198008681170574 .non (.nd 4113611214568304786947870681342494 .non .lf .lf) .lf) (.nd 4113611214568307813378365190447814 .non .lf .lf)) (.nd 4113611214568322945530837735974414 .non (.nd 4113611214568322945157552114378254 .non (.nd 4113611214568322944907414643016350 .non .lf .lf) .lf) (.nd 4113611214568322945530837750654534 .non .lf .lf))) (.nd 4113611214568323938578404816073798 .non (.nd 4113611214568322945534686980879430 .non (.nd 4113611214568322945534686966199310 .non (.nd 4113611214568322945530838690182214 .non .lf .lf) .lf) (.nd 4113611214568323938578404801393678 .non .lf .lf)) (.nd 4113611214568323954337155206493198 .non (.nd 4113611214568323953960019415151630 .non (.nd 4113611214568323953717580404232350 .non .lf .lf) .lf) (.nd 4113611214568323954337155221173318 .non .lf .lf))))
def rq_88 : BT := (.nd 4113611214568370359123700417434822 .non (.nd 4113611214568323954341003497190414 .non (.nd 4113611214568323954341002572346438 .non (.nd 4113611214568323954341002572342854 .non (.nd 4113611214568323954341002557666318 .non .lf .lf) .lf) (.nd 4113611214568323954341003497186830 .non .lf .lf)) (.nd 4113611214568370359054431184883926 .non (.nd 4113611214568323954341003511870534 .non (.nd 4113611214568323954341003511866950 .non .lf .lf) .lf) (.nd 4113611214568370359123699463227022 .non .lf .lf))) (.nd 4113611214568370359677854542083142 .non (.nd 4113611214568370359608585309532246 .non (.nd 4113611214568370359608585045291094 .non (.nd 4113611214568370359358443346072774 .non .lf .lf) .lf) (.nd 4113611214568370359677854277841990 .non .lf .lf)) (.nd 4113611214568371368484171073074246 .non (.nd 4113611214568371368445688019300886 .non (.nd 4113611214568371368418749881659534 .non .lf .lf) .lf) (.nd 4113611214568378430062965598597262 .non .lf .lf))))
def rq_86 : BT := .nd 4113611214568323954341002557662734 .non rq_87 rq_88
def rq_82 : BT := .nd 4113611214568304786462987007694022 .non rq_83 rq_86
def rq_91 : BT := (.nd 4113611214568387508515519478507078 .non (.nd 4113611214568380447398518765000214 .non (.nd 4113611214568380446898240974369414 .non (.nd 4113611214568380446867454531351174 .non (.nd 4113611214568378430128386790011974 .non .lf .lf) .lf) (.nd 4113611214568380446898242163450062 .non .lf .lf)) (.nd 4113611214568380447741019851993734 .non (.nd 4113611214568380447710233408975942 .non (.nd 4113611214568380447710233408975494 .non .lf .lf) .lf) (.nd 4113611214568380447741019851994182 .non .lf .lf))) (.nd 4113611214568387509381387278234694 .non (.nd 4113611214568387509381386338707014 .non (.nd 4113611214568387509381386324026894 .non (.nd 4113611214568387508757963245748950 .non .lf .lf) .lf) (.nd 4113611214568387509381387263554574 .non .lf .lf)) (.nd 4113611214568388502428953389446158 .non (.nd 4113611214568387509385235568931910 .non (.nd 4113611214568387509385235554251790 .non .lf .lf) .lf) (.nd 4113611214568388502428953404126278 .non .lf .lf))))
def rq_92 : BT := (.nd 4113611214568388518122282603130966 .non (.nd 4113611214568388517568129006964950 .non (.nd 4113611214568388517348776437232710 .non (.nd 4113611214568388517348773222298694 .non (.nd 4113611214568388517317989994214470 .non .lf .lf) .lf) (.nd 4113611214568388517356473018627142 .non .lf .lf)) (.nd 4113611214568388517637398239515846 .non (.nd 4113611214568388517625853367432262 .non (.nd 4113611214568388517568129006973014 .non .lf .lf) .lf) (.nd 4113611214568388517637398239523910 .non .lf .lf))) (.nd 4113611214568388518160762441970758 .non (.nd 4113611214568388518126130908508302 .non (.nd 4113611214568388518122282867372118 .non (.nd 4113611214568388518122282867364054 .non .lf .lf) .lf) (.nd 4113611214568388518153069046149654 .non .lf .lf)) (.nd 4113611214568388518187703794545678 .non (.nd 4113611214568388518160765656904774 .non (.nd 4113611214568388518160765656904326 .non .lf .lf) .lf) (.nd 4113611214568388518187703809225798 .non .lf .lf))))
def rq_90 : BT := .nd 4113611214568388517317986779280454 .non rq_91 rq_92
def rq_94 : BT := (.nd 4113611214568388518191552099914950 .non (.nd 4113611214568388518191551160395334 .non (.nd 4113611214568388518191551145715214 .non (.nd 4113611214568388518191550764037190 .non (.nd 4113611214568388518191549017109574 .non .lf .lf) .lf) (.nd 4113611214568388518191551145718798 .non .lf .lf)) (.nd 4113611214568388518191552085239310 .non (.nd 4113611214568388518191551835681862 .non (.nd 4113611214568388518191551160398918 .non .lf .lf) .lf) (.nd 4113611214568388518191552085242894 .non .lf .lf))) (.nd 4113611214568388518191552099923014 .non (.nd 4113611214568388518191552099919430 .non (.nd 4113611214568388518191552099918534 .non (.nd 4113611214568388518191552099915398 .non .lf .lf) .lf) (.nd 4113611214568388518191552099922566 .non .lf .lf)) (.nd 4317701607202856652819696639685646 .non (.nd 4317701302557746755785571968627782 .non (.nd 4317701302557746755785571953947662 .non .lf .lf) .lf) (.nd 4317701607202856652819696654365766 .non .lf .lf))))
def rq_95 : BT := (.nd 4317704044402667826540261838042126 .non (.nd 4317703739752199134343835241821254 .non (.nd 4317702639617371605585395241595974 .non (.nd 4317702639617371605585395226915854 .non (.nd 4317701607207053303105354877776966 .non .lf .lf) .lf) (.nd 4317703739752199134343835227141134 .non .lf .lf)) (.nd 4317704044401505681663618136290318 .non (.nd 4317703739753361279220478943573062 .non (.nd 4317703739753361279220478928892942 .non .lf .lf) .lf) (.nd 4317704044401505681663618150970438 .non .lf .lf))) (.nd 4322140652253206244891929974551622 .non (.nd 4322140533778023975704430736979014 .non (.nd 4322140533778023975704430722298894 .non (.nd 4317704044402667826540261852722246 .non .lf .lf) .lf) (.nd 4322140652253206244891929959871502 .non .lf .lf)) (.nd 4353197973483615596041099950830606 .non (.nd 4322140821503466629445500313941062 .non (.nd 4322140821503466629445500299260942 .non .lf .lf) .lf) (.nd 4353197973483615596041099965510726 .non .lf .lf))))
def rq_93 : BT := .nd 4317701607207053303105354863096846 .non rq_94 rq_95
def rq_89 : BT := .nd 4113611214568388518191548884988998 .non rq_90 rq_93
def rq_81 : BT := .nd 4113611214568378430089903736238614 .non rq_82 rq_89
def rq_65 : BT := .nd 4113611214568224082134683771867294 .non rq_66 rq_81
def rq_100 : BT := (.nd 4362070309074945152444092971889734 .non (.nd 4362068108829953485836773592806414 .non (.nd 4353198261209058249782169542472774 .non (.nd 4353198261209058249782169527792654 .non (.nd 4353198091958797865228599203083334 .non .lf .lf) .lf) (.nd 4362067973429745180164242172949574 .non (.nd 4362067973429745180164242158269454 .non .lf .lf) .lf)) (.nd 4362068108835183117832131291001926 .non (.nd 4362068108835183117832131276321806 .non (.nd 4362068108829953485836773607486534 .non .lf .lf) .lf) (.nd 4362070309074945152444092957209614 .non .lf .lf))) (.nd 4362071680010447549854693838958734 .non (.nd 4362071680010447549850845533581398 .non (.nd 4362071680010447547949790193398854 .non (.nd 4362071680010447547949790178718734 .non .lf .lf) .lf) (.nd 4362071680010447549850845797822550 .non .lf .lf)) (.nd 4362071680010447549889328587355206 .non (.nd 4362071680010447549889328587354758 .non (.nd 4362071680010447549881631976600086 .non .lf .lf) .lf) (.nd 4362071680010447549916266724996110 .non .lf .lf))))
def rq_101 : BT := (.nd 4362071815410655855554163411137046 .non (.nd 4362071815410655853622321613255694 .non (.nd 4362071680010447549920115030372998 .non (.nd 4362071680010447549920115015693326 .non (.nd 4362071680010447549920114766132294 .non .lf .lf) .lf) (.nd 4362071680010447549920115030373446 .non .lf .lf)) (.nd 4362071815410655855523377232359510 .non (.nd 4362071815410655855523376968118358 .non (.nd 4362071815410655853622321627935814 .non .lf .lf) .lf) (.nd 4362071815410655855527225273495694 .non .lf .lf))) (.nd 4362071815410655855592646200669254 .non (.nd 4362071815410655855588798159533070 .non (.nd 4362071815410655855561860021892166 .non (.nd 4362071815410655855561860021891718 .non .lf .lf) .lf) (.nd 4362071815410655855588798174213190 .non .lf .lf)) (.nd 4362071815410655855592646464910406 .non (.nd 4362071815410655855592646464909958 .non (.nd 4362071815410655855592646450230286 .non .lf .lf) .lf) (.nd 4393125430064430331985956913427470 .non .lf .lf))))
def rq_99 : BT := .nd 4362071680010447549916266739676230 .non rq_100 rq_101
def rq_103 : BT := (.nd 4393129238191286001324507247555654 .non (.nd 4393129238187153914889397597516814 .non (.nd 4393129238187089351038849009464334 .non (.nd 4393126496343394989011351429854278 .non (.nd 4393126496343394989011351415174158 .non .lf .lf) .lf) (.nd 4393129238187089351038849024144454 .non .lf .lf)) (.nd 4393129238191221437473958659503174 .non (.nd 4393129238191221437473958644823054 .non (.nd 4393129238187153914889397612196934 .non .lf .lf) .lf) (.nd 4393129238191286001324507232875534 .non .lf .lf))) (.nd 4397562190236135605376474684994574 .non (.nd 4393129255116247475929315678761998 .non (.nd 4393129255116182912078767105389638 .non (.nd 4393129255116182912078767090709518 .non .lf .lf) .lf) (.nd 4393129255116247475929315693442118 .non .lf .lf)) (.nd 4397562190250275034708973070988358 .non (.nd 4397562190250275034708973056308238 .non (.nd 4397562190236135605376474699674694 .non .lf .lf) .lf) (.nd 4397562325636343911049006119531534 .non .lf .lf))))
def rq_104 : BT := (.nd 4397563544247709511927712609350726 .non (.nd 4397563290373287352956507957638158 .non (.nd 4397562359500406289591121382618126 .non (.nd 4397562325650483340381504505525318 .non (.nd 4397562325650483340381504490845198 .non .lf .lf) .lf) (.nd 4397562359500406289591121397298246 .non .lf .lf)) (.nd 4397563290373287388422355037860934 .non (.nd 4397563290373287388422355023180814 .non (.nd 4397563290373287352956507972318278 .non .lf .lf) .lf) (.nd 4397563544247709511927712594670606 .non .lf .lf))) (.nd 4397563595022593935676716755595406 .non (.nd 4397563595022593935672868450218070 .non (.nd 4397563595022593900276290881467462 .non (.nd 4397563595022593900276290866787342 .non .lf .lf) .lf) (.nd 4397563595022593935672868714459222 .non .lf .lf)) (.nd 4397563595022593935711351503991878 .non (.nd 4397563595022593935711351503991430 .non (.nd 4397563595022593935703654893236758 .non .lf .lf) .lf) (.nd 4397563595022593935738289641632782 .non .lf .lf))))
def rq_102 : BT := .nd 4397562325636343911049006134211654 .non rq_103 rq_104
def rq_98 : BT := .nd 4393125430064430331985956928107590 .non rq_99 rq_102
def rq_107 : BT := (.nd 4397565727567739731514771245511750 .non (.nd 4397565727566577586638127529079822 .non (.nd 4397563595022593935742137947009670 .non (.nd 4397563595022593935742137932329998 .non (.nd 4397563595022593935742137682768966 .non .lf .lf) .lf) (.nd 4397563595022593935742137947010118 .non .lf .lf)) (.nd 4397565727567739696048924179969094 .non (.nd 4397565727567739696048924165288974 .non (.nd 4397565727566577586638127543759942 .non .lf .lf) .lf) (.nd 4397565727567739731514771230831630 .non .lf .lf))) (.nd 4397565896802698543829524334130190 .non (.nd 4397565862966785894280983800591374 .non (.nd 4397565744491603625093484577698886 .non (.nd 4397565744491603625093484563018766 .non .lf .lf) .lf) (.nd 4397565862966785894280983815271494 .non .lf .lf)) (.nd 4397565896816837971191697883149382 .non (.nd 4397565896816837971191697868469262 .non (.nd 4397565896802698543829524348810310 .non .lf .lf) .lf) (.nd 4397565896816837973092753223331926 .non .lf .lf))))
def rq_108 : BT := (.nd 4397565896816837973162022720123974 .non (.nd 4397565896816837973158174414746638 .non (.nd 4397565896816837973131236277105286 .non (.nd 4397565896816837973123539666350614 .non (.nd 4397565896816837973096601528709262 .non .lf .lf) .lf) (.nd 4397565896816837973131236277105734 .non .lf .lf)) (.nd 4397565896816837973162022705443854 .non (.nd 4397565896816837973162022455882822 .non (.nd 4397565896816837973158174429426758 .non .lf .lf) .lf) (.nd 4397565896816837973162022720123526 .non .lf .lf))) (.nd 4397566032202906849502055768667150 .non (.nd 4397566015292084804229745694094350 .non (.nd 4397566015292020240379197120721990 .non (.nd 4397566015292020240379197106041870 .non .lf .lf) .lf) (.nd 4397566015292084804229745708774470 .non .lf .lf)) (.nd 4397566032203487921940377634223174 .non (.nd 4397566032203487921940377619543054 .non (.nd 4397566032202906849502055783347270 .non .lf .lf) .lf) (.nd 4397566032211170990847077647791118 .non .lf .lf))))
def rq_106 : BT := .nd 4397565896816837973092753487573078 .non rq_107 rq_108
def rq_110 : BT := (.nd 4397566032212914208123560161325590 .non (.nd 4397566032212914192399444504622094 .non (.nd 4397566032212849644311494612366350 .non (.nd 4397566032212849628548895931249734 .non (.nd 4397566032212849628548895916569614 .non .lf .lf) .lf) (.nd 4397566032212849644311494627046470 .non .lf .lf)) (.nd 4397566032212914208092773982548054 .non (.nd 4397566032212914208092773718306902 .non (.nd 4397566032212914192399444519302214 .non .lf .lf) .lf) (.nd 4397566032212914208096622023684238 .non .lf .lf))) (.nd 4397566032212914208162042950857798 .non (.nd 4397566032212914208158194909721614 .non (.nd 4397566032212914208131256772080710 .non (.nd 4397566032212914208131256772080262 .non .lf .lf) .lf) (.nd 4397566032212914208158194924401734 .non .lf .lf)) (.nd 4397566032212914208162043215098950 .non (.nd 4397566032212914208162043215098502 .non (.nd 4397566032212914208162043200418830 .non .lf .lf) .lf) (.nd 4397566032215884133957910438229006 .non .lf .lf))))
def rq_111 : BT := (.nd 4397566032216818287737302060241054 .non (.nd 4397566032216817279769915176649374 .non (.nd 4397566032216817278957922742043294 .non (.nd 4397566032216817278927137253232854 .non (.nd 4397566032216817278927136299025054 .non .lf .lf) .lf) (.nd 4397566032216817279550559391983118 .non .lf .lf)) (.nd 4397566032216817279800701619668062 .non (.nd 4397566032216817279800701619667614 .non (.nd 4397566032216817279769915176649822 .non .lf .lf) .lf) (.nd 4397566032216818287737301135393494 .non .lf .lf))) (.nd 4397566032216825349408454989972574 .non (.nd 4397566032216825349377668546954334 .non (.nd 4397566032216818288603168920440990 .non (.nd 4397566032216818288360725153199118 .non .lf .lf) .lf) (.nd 4397566032216825349377671761888350 .non .lf .lf)) (.nd 4397566032216825350220444209644638 .non (.nd 4397566032216825349720169633947854 .non (.nd 4397566032216825349408458204906590 .non .lf .lf) .lf) (.nd 4397566032216825350220446235498006 .non .lf .lf))))
def rq_109 : BT := .nd 4397566032215884133957910452909126 .non rq_110 rq_111
def rq_105 : BT := .nd 4397566032211170990847077662471238 .non rq_106 rq_109
def rq_97 : BT := .nd 4397563595022593935738289656312902 .non rq_98 rq_105
def rq_115 : BT := (.nd 4397566032216835437510103353656974 .non (.nd 4397566032216827367298165011514574 .non (.nd 4397566032216825350251233867596446 .non (.nd 4397566032216825350251230652662878 .non (.nd 4397566032216825350220447424578654 .non .lf .lf) .lf) (.nd 4397566032216827367028784662709454 .non (.nd 4397566032216825350251233867596894 .non .lf .lf) .lf)) (.nd 4397566032216834428699940264216150 .non (.nd 4397566032216834428699938517288534 .non (.nd 4397566032216827367863863744005326 .non .lf .lf) .lf) (.nd 4397566032216834428699941600101974 .non .lf .lf))) (.nd 4397566032216881842777685826605214 .non (.nd 4397566032216835437994988935721046 .non (.nd 4397566032216835437994987981513246 .non (.nd 4397566032216835437760245052875294 .non .lf .lf) .lf) (.nd 4397566032216881842777684901757654 .non .lf .lf)) (.nd 4397566032216882851587849708765854 .non (.nd 4397566032216881843401107994715718 .non (.nd 4397566032216881843158668983796438 .non .lf .lf) .lf) (.nd 4397566032216882851587850662973654 .non .lf .lf))))
def rq_116 : BT := (.nd 4397566032216901010101548485054678 .non (.nd 4397566032216882852211274020172870 .non (.nd 4397566032216882852142004787621974 .non (.nd 4397566032216882852142004523380822 .non (.nd 4397566032216882851961136284569814 .non .lf .lf) .lf) (.nd 4397566032216882852211273755931718 .non .lf .lf)) (.nd 4397566032216897984306021940991006 .non (.nd 4397566032216897983740323208500254 .non (.nd 4397566032216897983470942859695134 .non .lf .lf) .lf) (.nd 4397566032216901009920679717777494 .non .lf .lf))) (.nd 4397566032216901010655702081220694 .non (.nd 4397566032216901010170817717613638 .non (.nd 4397566032216901010170817717605574 .non (.nd 4397566032216901010101548485062742 .non .lf .lf) .lf) (.nd 4397566032216901010655701391254046 .non .lf .lf)) (.nd 4397566032216901010724971313771590 .non (.nd 4397566032216901010655702345461846 .non (.nd 4397566032216901010655702345453782 .non .lf .lf) .lf) (.nd 4397566032216901010724971578004678 .non .lf .lf))))
def rq_114 : BT := .nd 4397566032216882851657119895524550 .non rq_115 rq_116
def rq_118 : BT := (.nd 4397566032216954477109555381018718 .non (.nd 4397566032216909080652136408553094 .non (.nd 4397566032216907063220373699302934 .non (.nd 4397566032216907063031806735816214 .non (.nd 4397566032216907062720095908672134 .non .lf .lf) .lf) (.nd 4397566032216907063220374888383582 .non .lf .lf)) (.nd 4397566032216954477109552298205278 .non (.nd 4397566032216909080652136408560710 .non (.nd 4397566032216909080652136408556230 .non .lf .lf) .lf) (.nd 4397566032216954477109554045132894 .non .lf .lf))) (.nd 4397566032216962547105988108224142 .non (.nd 4397566032216956494729883717869774 .non (.nd 4397566032216956494541316754383054 .non (.nd 4397566032216956494541315565302406 .non .lf .lf) .lf) (.nd 4397566032216956495041594545013854 .non .lf .lf)) (.nd 4397566032216962547841010735908494 .non (.nd 4397566032216962547590872736080414 .non (.nd 4397566032216962547105989062431942 .non .lf .lf) .lf) (.nd 4397566032216965574021367245182598 .non .lf .lf))))
def rq_119 : BT := (.nd 4397566032216981699221406856131598 .non (.nd 4397566032216980706173839805392454 .non (.nd 4397566032216980705800554169116174 .non (.nd 4397566032216980705550416697754270 .non (.nd 4397566032216965574021367245190214 .non .lf .lf) .lf) (.nd 4397566032216980706173839790712334 .non .lf .lf)) (.nd 4397566032216980706177689020937230 .non (.nd 4397566032216980706173840744920134 .non (.nd 4397566032216980706173840730240014 .non .lf .lf) .lf) (.nd 4397566032216980706177689035617350 .non .lf .lf))) (.nd 4397566032216981714980157275911238 .non (.nd 4397566032216981714603021469889550 .non (.nd 4397566032216981714360582458970270 .non (.nd 4397566032216981699221406870811718 .non .lf .lf) .lf) (.nd 4397566032216981714980157261231118 .non .lf .lf)) (.nd 4397566032216981714984004627080774 .non (.nd 4397566032216981714984004612404238 .non (.nd 4397566032216981714984004612400654 .non .lf .lf) .lf) (.nd 4397566032216981714984004627084358 .non .lf .lf))))
def rq_117 : BT := .nd 4397566032216965574021367245185734 .non rq_118 rq_119
def rq_113 : BT := .nd 4397566032216901010724971578012742 .non rq_114 rq_117
def rq_122 : BT := (.nd 4397566032217028120320856332579910 .non (.nd 4397566032217028119766701517964942 .non (.nd 4397566032216981714984005566608454 .non (.nd 4397566032216981714984005566604870 .non (.nd 4397566032216981714984005551928334 .non .lf .lf) .lf) (.nd 4397566032217028119697433239621846 .non .lf .lf)) (.nd 4397566032217028120251587100029014 .non (.nd 4397566032217028120001445400810694 .non (.nd 4397566032217028119766702472172742 .non .lf .lf) .lf) (.nd 4397566032217028120251587364270166 .non .lf .lf))) (.nd 4397566032217036190705967653335182 .non (.nd 4397566032217029129088690074038806 .non (.nd 4397566032217029129061751936397454 .non (.nd 4397566032217028120320856596821062 .non .lf .lf) .lf) (.nd 4397566032217029129127173127812166 .non .lf .lf)) (.nd 4397566032217038207510456586089094 .non (.nd 4397566032217036190771388844749894 .non (.nd 4397566032217036190732905790976534 .non .lf .lf) .lf) (.nd 4397566032217038207541243029107334 .non .lf .lf))))
def rq_123 : BT := (.nd 4397566032217045270024389318292494 .non (.nd 4397566032217038208384021906732102 .non (.nd 4397566032217038208353235463713862 .non (.nd 4397566032217038208353235463713414 .non (.nd 4397566032217038208041520819738134 .non .lf .lf) .lf) (.nd 4397566032217038208384021906731654 .non .lf .lf)) (.nd 4397566032217045270024388378764814 .non (.nd 4397566032217045269400965300486870 .non (.nd 4397566032217045269158521533244998 .non .lf .lf) .lf) (.nd 4397566032217045270024388393444934 .non .lf .lf))) (.nd 4397566032217046243368707089118278 .non (.nd 4397566032217045270028237623669830 .non (.nd 4397566032217045270028237608989710 .non (.nd 4397566032217045270024389332972614 .non .lf .lf) .lf) (.nd 4397566032217046243368707074438158 .non .lf .lf)) (.nd 4397566032217046259131305770234894 .non (.nd 4397566032217046245339031926092870 .non (.nd 4397566032217046245339031911412750 .non .lf .lf) .lf) (.nd 4397566032217046259131305784915014 .non .lf .lf))))
def rq_121 : BT := .nd 4397566032217038207541244218187982 .non rq_122 rq_123
def rq_125 : BT := (.nd 4397566032217046278211131061710934 .non (.nd 4397566032217046277960992048952390 .non (.nd 4397566032217046276864229317686342 .non (.nd 4397566032217046276864229303006222 .non (.nd 4397566032217046263071955458864198 .non .lf .lf) .lf) (.nd 4397566032217046277960988834018374 .non .lf .lf)) (.nd 4397566032217046277999475073365062 .non (.nd 4397566032217046277991778491970630 .non (.nd 4397566032217046277991775277036614 .non .lf .lf) .lf) (.nd 4397566032217046278211131061702870 .non .lf .lf))) (.nd 4397566032217046278765284922101974 .non (.nd 4397566032217046278280400294261830 .non (.nd 4397566032217046278280400294253766 .non (.nd 4397566032217046278268855422170182 .non .lf .lf) .lf) (.nd 4397566032217046278765284657868886 .non .lf .lf)) (.nd 4397566032217046278796071100887574 .non (.nd 4397566032217046278769132963246222 .non (.nd 4397566032217046278765284922110038 .non .lf .lf) .lf) (.nd 4397566032217046278803764496708678 .non .lf .lf))))
def rq_126 : BT := (.nd 4397566032217046278834553215136838 .non (.nd 4397566032217046278834551071847494 .non (.nd 4397566032217046278830705863963718 .non (.nd 4397566032217046278830705849283598 .non (.nd 4397566032217046278803767711642694 .non .lf .lf) .lf) (.nd 4397566032217046278834550939726918 .non .lf .lf)) (.nd 4397566032217046278834553200456718 .non (.nd 4397566032217046278834553200453134 .non (.nd 4397566032217046278834552818775110 .non .lf .lf) .lf) (.nd 4397566032217046278834553215133254 .non .lf .lf))) (.nd 4397566032217046278834554154653318 .non (.nd 4397566032217046278834554139980814 .non (.nd 4397566032217046278834554139977230 .non (.nd 4397566032217046278834553890419782 .non .lf .lf) .lf) (.nd 4397566032217046278834554154652870 .non .lf .lf)) (.nd 4397566032217046278834554154660486 .non (.nd 4397566032217046278834554154657350 .non (.nd 4397566032217046278834554154656454 .non .lf .lf) .lf) (.nd 4397566032217046278834554154660934 .non .lf .lf))))
def rq_124 : BT := .nd 4397566032217046278803767711642246 .non rq_125 rq_126
def rq_120 : BT := .nd 4397566032217046263071955444184078 .non rq_121 rq_124
def rq_112 : BT := .nd 4397566032216981714984005551924750 .non rq_113 rq_120
def rq_96 : BT := .nd 4397566032216825350220447424578206 .non rq_97 rq_112
def rq_64 : BT := .nd 4353198091958797865228599188403214 .non rq_65 rq_96
def rq_0 : BT := .nd 3758669825039218303861624992576582 .non rq_1 rq_64
def rq : BT := rq_0
def S3 : Nat → Option Ev.Spec := upS S2 15 (mapS rq)
def cq_3 : BT := (.nd 1359483915 (.bl true) (.nd 36930 (.bl true) (.nd 33290 (.bl true) (.nd 65 (.bl true) .lf .lf) .lf) (.nd 1241842755 (.bl true) (.nd 1095270483 (.bl true) .lf .lf) .lf)) (.nd 2301501349564572 (.bl true) (.nd 2301442136847372 (.bl true) (.nd 1359512643 (.bl true) .lf .lf) .lf) (.nd 2328310682493132 (.bl true) .lf .lf)))
def cq_4 : BT := (.nd 2617045181571612 (.bl true) (.nd 2543884487918292 (.bl true) (.nd 2366845232099412 (.bl true) (.nd 2366787950027292 (.bl true) .lf .lf) .lf) (.nd 2616865761374292 (.bl true) (.nd 2543943626335812 (.bl true) .lf .lf) .lf)) (.nd 2640068265641052 (.bl true) (.nd 2639946108940932 (.bl true) (.nd 2617062107919428 (.bl true) .lf .lf) .lf) (.nd 2828588424737412 (.bl true) .lf .lf)))
def cq_2 : BT := .nd 2328432802043412 (.bl true) cq_3 cq_4
def cq_5 : BT := (.nd 3167214553531092 (.bl true) (.nd 3101811458279052 (.bl true) (.nd 2924713064042652 (.bl true) (.nd 2851790929004172 (.bl true) (.nd 2851611508806852 (.bl true) .lf .lf) .lf) (.nd 2924865267184708 (.bl true) (.nd 2924772202460172 (.bl true) .lf .lf) .lf)) (.nd 3140346007885332 (.bl true) (.nd 3140223888335052 (.bl true) (.nd 3101868740351172 (.bl true) .lf .lf) .lf) (.nd 3167155340813892 (.bl true) .lf .lf))) (.nd 352042730576569748829253 (.bl true) (.nd 3171216001119244 (.bl true) (.nd 3171208483320900 (.bl true) (.nd 3171199089913940 (.bl true) .lf .lf) .lf) (.nd 352041737485231694427205 (.bl true) .lf .lf)) (.nd 360821126726170842379333 (.bl true) (.nd 355658182064800408941637 (.bl true) (.nd 355656132965934617998405 (.bl true) .lf .lf) .lf) (.nd 360822088184081661703237 (.bl true) .lf .lf))))
def cq_1 : BT := .nd 2828710581437532 (.bl true) cq_2 cq_5
def cq_7 : BT := (.nd 435714608076002047439941 (.bl true) (.nd 422802281292739907826757 (.bl true) (.nd 394396186935879956313157 (.bl true) (.nd 394393176340140591821893 (.bl true) (.nd 384582787044666964587589 (.bl true) .lf .lf) .lf) (.nd 397494120892442066695237 (.bl true) (.nd 397492071715650767303749 (.bl true) .lf .lf) .lf)) (.nd 425903225845041382700101 (.bl true) (.nd 425900215249302018208837 (.bl true) (.nd 422804330469531207218245 (.bl true) .lf .lf) .lf) (.nd 435713615140515009934405 (.bl true) .lf .lf))) (.nd 468253671608612225692741 (.bl true) (.nd 464638220120381565580357 (.bl true) (.nd 459475275459011132142661 (.bl true) (.nd 459474314001100312818757 (.bl true) .lf .lf) .lf) (.nd 464640269219247356523589 (.bl true) .lf .lf)) (.nd 468773297574917802430621 (.bl true) (.nd 468773297571129459618829 (.bl true) (.nd 468254664699950280094789 (.bl true) .lf .lf) .lf) (.nd 468773311358954016743629 (.bl true) .lf .lf))))
def cq_8 : BT := (.nd 468773579318862629442757 (.bl true) (.nd 468773459140531966059037 (.bl true) (.nd 468773421701594486276821 (.bl true) (.nd 468773331065509261750357 (.bl true) (.nd 468773331061841590886941 (.bl true) .lf .lf) .lf) (.nd 468773459129047454724181 (.bl true) (.nd 468773421705382234564165 (.bl true) .lf .lf) .lf)) (.nd 468773567501182436258437 (.bl true) (.nd 468773470958212159243357 (.bl true) (.nd 468773470950395170140805 (.bl true) .lf .lf) .lf) (.nd 468773567508999425360989 (.bl true) .lf .lf))) (.nd 468773707397553004614853 (.bl true) (.nd 468773616757800109224973 (.bl true) (.nd 468773616754012360937629 (.bl true) (.nd 468773579330347140777613 (.bl true) .lf .lf) .lf) (.nd 468773707393885333751437 (.bl true) .lf .lf)) (.nd 468773740884476793071173 (.bl true) (.nd 468773727100440578758165 (.bl true) (.nd 468773727092623886917837 (.bl true) .lf .lf) .lf) (.nd 468773740888265135882965 (.bl true) .lf .lf))))
def cq_6 : BT := .nd 468773311366770708583957 (.bl true) cq_7 cq_8
def cq_0 : BT := .nd 384581794109179927082053 (.bl true) cq_1 cq_6
def cq : BT := cq_0
def S4 : Nat → Option Ev.Spec := upS S3 51 (mapS cq)
def lo_5 : BT := (.nd 2297646495040604 sm6 (.nd 1344832579 sm1 (.nd 1109463179 sm0 (.nd 36930 sm0 (.nd 33290 sm0 (.nd 65 sm0 .lf .lf) .lf) (.nd 1095270483 sm1 (.nd 1094754387 sm0 .lf .lf) .lf)) (.nd 1241842755 sm1 (.nd 1241842307 sm0 (.nd 1212424723 sm0 .lf .lf) .lf) (.nd 1344803851 sm0 .lf .lf))) (.nd 2297440689029788 sm0 (.nd 1359512195 sm1 (.nd 1359483915 sm1 (.nd 1358996547 sm1 .lf .lf) .lf) (.nd 1359512643 sm0 .lf .lf)) (.nd 2297592891942412 sm2 (.nd 2297448207057564 sm1 (.nd 2297440703942868 sm2 .lf .lf) .lf) (.nd 2297646495040156 sm1 .lf .lf)))) (.nd 2328234582869084 sm1 (.nd 2301442136847372 sm18 (.nd 2301289919480532 sm0 (.nd 2297654013068380 sm6 (.nd 2297654013067932 sm1 .lf .lf) .lf) (.nd 2301289933934748 sm2 .lf .lf)) (.nd 2328227064841308 sm4 (.nd 2328227014607964 sm1 (.nd 2301501349564572 sm34 .lf .lf) .lf) (.nd 2328234532635740 sm0 .lf .lf))) (.nd 2328432820618332 sm1 (.nd 2328432802043412 sm23 (.nd 2328432770384988 sm4 (.nd 2328310682493132 sm21 .lf .lf) .lf) (.nd 2328432820617884 sm6 .lf .lf)) (.nd 2328440338646108 sm1 (.nd 2328440338645660 sm6 (.nd 2328440288412764 sm1 .lf .lf) .lf) (.nd 2335932993537228 sm0 .lf .lf)))))
def lo_6 : BT := (.nd 2547792875369540 sm4 (.nd 2543791437877404 sm0 (.nd 2366726837143180 sm0 (.nd 2362877633988180 sm1 (.nd 2362877606692436 sm0 (.nd 2336136870266060 sm1 .lf .lf) .lf) (.nd 2362877654861396 sm1 .lf .lf)) (.nd 2366845232099412 sm26 (.nd 2366845217186332 sm2 (.nd 2366787950027292 sm31 .lf .lf) .lf) (.nd 2543791423423188 sm2 .lf .lf))) (.nd 2547657579762884 sm1 (.nd 2547640653415068 sm2 (.nd 2543943626335812 sm10 (.nd 2543884487918292 sm29 .lf .lf) .lf) (.nd 2547640668328148 sm0 .lf .lf)) (.nd 2547775963934804 sm4 (.nd 2547775959806036 sm1 (.nd 2547731824414932 sm2 .lf .lf) .lf) (.nd 2547792871240772 sm1 .lf .lf)))) (.nd 2617045192355924 sm4 (.nd 2616909905006804 sm1 (.nd 2605517235131420 sm1 (.nd 2605379125089308 sm0 (.nd 2605313358402588 sm1 .lf .lf) .lf) (.nd 2616865761374292 sm27 .lf .lf)) (.nd 2616926816449604 sm1 (.nd 2616926816441540 sm0 (.nd 2616909905014868 sm6 .lf .lf) .lf) (.nd 2617045181571612 sm30 .lf .lf))) (.nd 2617062107919428 sm1 (.nd 2617062103790660 sm4 (.nd 2617045196484692 sm1 (.nd 2617045196476628 sm6 .lf .lf) .lf) (.nd 2617062107911364 sm1 .lf .lf)) (.nd 2640068247066132 sm2 (.nd 2640022199146004 sm0 (.nd 2639946108940932 sm12 .lf .lf) .lf) (.nd 2640068265641052 sm32 .lf .lf)))))
def lo_4 : BT := .nd 2335998760223948 sm1 lo_5 lo_6
def lo_8 : BT := (.nd 2921016036733964 sm1 (.nd 2851611508806852 sm15 (.nd 2828588424737412 sm13 (.nd 2820936003035228 sm1 (.nd 2647720660055108 sm1 (.nd 2647720660050628 sm1 .lf .lf) .lf) (.nd 2820936051204188 sm1 (.nd 2820936030330972 sm0 .lf .lf) .lf)) (.nd 2828710581437532 sm33 (.nd 2828634491232460 sm0 (.nd 2828588443312332 sm2 .lf .lf) .lf) (.nd 2851611493893772 sm2 .lf .lf))) (.nd 2863277565293636 sm1 (.nd 2863277565286020 sm1 (.nd 2851790929004172 sm19 (.nd 2851729873936924 sm0 .lf .lf) .lf) (.nd 2863277565289156 sm0 .lf .lf)) (.nd 2921016022050316 sm0 (.nd 2920924865963532 sm2 (.nd 2920863819137692 sm2 .lf .lf) .lf) (.nd 2921016022279748 sm1 .lf .lf)))) (.nd 2924865252501060 sm0 (.nd 2924772202460172 sm17 (.nd 2921016976487492 sm4 (.nd 2921016976258060 sm4 (.nd 2921016036963396 sm1 .lf .lf) .lf) (.nd 2924713064042652 sm35 .lf .lf)) (.nd 2924865252271628 sm1 (.nd 2924864327660612 sm4 (.nd 2924864327431180 sm4 .lf .lf) .lf) (.nd 2924865252275212 sm5 .lf .lf))) (.nd 2924865267184708 sm1 (.nd 2924865266955276 sm1 (.nd 2924865266951692 sm5 (.nd 2924865252504644 sm1 .lf .lf) .lf) (.nd 2924865267181124 sm1 .lf .lf)) (.nd 3101811473192132 sm1 (.nd 3101811458279052 sm20 (.nd 3101794561757396 sm1 .lf .lf) .lf) (.nd 3101868740351172 sm14 .lf .lf)))))
def lo_9 : BT := (.nd 3167366756214284 sm1 (.nd 3140216351732356 sm1 (.nd 3105785661960724 sm1 (.nd 3101946768798788 sm1 (.nd 3101946764670020 sm1 (.nd 3101929857364052 sm1 .lf .lf) .lf) (.nd 3105779083686028 sm0 .lf .lf)) (.nd 3132723696841236 sm0 (.nd 3132717118566540 sm1 (.nd 3105795059496004 sm1 .lf .lf) .lf) (.nd 3132733094376516 sm1 .lf .lf))) (.nd 3140422157743172 sm1 (.nd 3140346007885332 sm24 (.nd 3140223888335052 sm22 (.nd 3140223869760132 sm1 .lf .lf) .lf) (.nd 3140422157742724 sm0 .lf .lf)) (.nd 3167155340813892 sm11 (.nd 3140429675770948 sm1 (.nd 3140429675770500 sm1 .lf .lf) .lf) (.nd 3167214553531092 sm28 .lf .lf)))) (.nd 3171012124619844 sm1 (.nd 3167367710651460 sm1 (.nd 3167366771127364 sm1 (.nd 3167366770897932 sm0 (.nd 3167366756443716 sm1 .lf .lf) .lf) (.nd 3167367710422028 sm1 .lf .lf)) (.nd 3171010195338308 sm1 (.nd 3171002727543876 sm4 (.nd 3171002677310532 sm1 .lf .lf) .lf) (.nd 3171010245571652 sm1 .lf .lf))) (.nd 3171080709878852 sm1 (.nd 3171077891306564 sm1 (.nd 3171063798444116 sm6 (.nd 3171063798436052 sm1 .lf .lf) .lf) (.nd 3171080709870788 sm1 .lf .lf)) (.nd 3171199089913940 sm1 (.nd 3171199089905876 sm6 (.nd 3171199085785172 sm1 .lf .lf) .lf) (.nd 3171200025538700 sm1 .lf .lf)))))
def lo_7 : BT := .nd 3101929853235284 sm0 lo_8 lo_9
def lo_3 : BT := .nd 2647720660047492 sm0 lo_4 lo_7
def lo_12 : BT := (.nd 3171216001348676 sm0 (.nd 3171215986665028 sm1 (.nd 3171215951115332 sm1 (.nd 3171208483320900 sm1 (.nd 3171208483320452 sm1 (.nd 3171208433087556 sm4 .lf .lf) .lf) (.nd 3171215061824580 sm1 (.nd 3171215061595148 sm1 .lf .lf) .lf)) (.nd 3171215986435596 sm1 (.nd 3171215980475460 sm1 (.nd 3171215953179716 sm1 .lf .lf) .lf) (.nd 3171215986439180 sm5 .lf .lf))) (.nd 3171216001340612 sm1 (.nd 3171216001115660 sm5 (.nd 3171215997219908 sm1 (.nd 3171215986668612 sm1 .lf .lf) .lf) (.nd 3171216001119244 sm1 .lf .lf)) (.nd 3171216001345092 sm1 (.nd 3171216001344196 sm1 (.nd 3171216001341060 sm1 .lf .lf) .lf) (.nd 3171216001348228 sm1 .lf .lf)))) (.nd 352039183944240597185605 sm4 (.nd 351526111431252106163269 sm3 (.nd 351522785421428625912901 sm3 (.nd 351522659348059084960837 sm4 (.nd 351522659316790768841797 sm1 .lf .lf) .lf) (.nd 351525212857781866083397 sm4 .lf .lf)) (.nd 351526237535890080674885 sm4 (.nd 351526237535889963234373 sm1 (.nd 351526111431252223603781 sm9 .lf .lf) .lf) (.nd 352039183913934383100997 sm1 .lf .lf))) (.nd 355654856093939682915397 sm1 (.nd 355654729989301825844293 sm3 (.nd 352042730576569748829253 sm58 (.nd 352041737485231694427205 sm43 .lf .lf) .lf) (.nd 355654730094648783680581 sm7 .lf .lf)) (.nd 355658181998416205329477 sm7 (.nd 355656132965934617998405 sm46 (.nd 355654856199286640751685 sm1 .lf .lf) .lf) (.nd 355658182064800408941637 sm48 .lf .lf)))))
def lo_13 : BT := (.nd 385096758131125695689797 sm1 (.nd 360303577569249842050117 sm1 (.nd 356687905288226911433797 sm1 (.nd 355658308208400902796357 sm4 (.nd 355658308103054062400581 sm1 (.nd 355658182103763163165765 sm3 .lf .lf) .lf) (.nd 355658308208401020236869 sm1 .lf .lf)) (.nd 360303577468232211248197 sm1 (.nd 356691325772143899325509 sm1 (.nd 356689008670135617205317 sm3 .lf .lf) .lf) (.nd 360303577525475535369285 sm3 .lf .lf))) (.nd 384580233503675867345989 sm4 (.nd 360822088152813345584197 sm4 (.nd 360821126726170842379333 sm55 (.nd 360820102065375825507397 sm1 .lf .lf) .lf) (.nd 360822088184081661703237 sm50 .lf .lf)) (.nd 384582787044666964587589 sm36 (.nd 384581794109179927082053 sm53 (.nd 384580233533982081430597 sm1 .lf .lf) .lf) (.nd 385096758099857379570757 sm4 .lf .lf)))) (.nd 394393176340140591821893 sm51 (.nd 385099311672116792931397 sm1 (.nd 385099027945340004348997 sm3 (.nd 385098287149859712676933 sm4 (.nd 385097041857902484272197 sm3 .lf .lf) .lf) (.nd 385099027953998658417733 sm7 .lf .lf)) (.nd 392844627088279909577797 sm1 (.nd 392843523706371203806277 sm3 (.nd 385099311680775447000133 sm4 .lf .lf) .lf) (.nd 392846944190288191697989 sm1 .lf .lf))) (.nd 394394200879712866284613 sm1 (.nd 394394200879710752355397 sm1 (.nd 394393917152936077702213 sm9 (.nd 394393917152933963772997 sm3 .lf .lf) .lf) (.nd 394394200879712864449549 sm1 .lf .lf)) (.nd 394396186967146158502981 sm9 (.nd 394396186958489618363461 sm7 (.nd 394396186935879956313157 sm54 .lf .lf) .lf) (.nd 394396186967148272432197 sm3 .lf .lf)))))
def lo_11 : BT := .nd 355658182103763045725253 sm9 lo_12 lo_13
def lo_15 : BT := (.nd 425900215249302018208837 sm41 (.nd 398526397656861661082637 sm1 (.nd 397493348462572437910597 sm1 (.nd 394396470693925061014597 sm1 (.nd 394396470693925059179533 sm3 (.nd 394396470693922947085381 sm1 .lf .lf) .lf) (.nd 397492071715650767303749 sm38 .lf .lf)) (.nd 398526397656859666428997 sm1 (.nd 397494120892442066695237 sm56 (.nd 397494120853479312471109 sm4 .lf .lf) .lf) (.nd 398526397656860488512581 sm3 .lf .lf))) (.nd 422802281292739907826757 sm39 (.nd 421770004528322308092997 sm1 (.nd 421770004471078983971909 sm3 (.nd 398526397656861662917701 sm1 .lf .lf) .lf) (.nd 421770004572096614773829 sm1 .lf .lf)) (.nd 422804330469531207218245 sm57 (.nd 422803053722609536611397 sm1 (.nd 422802281331702662050885 sm4 .lf .lf) .lf) (.nd 425900215218033702089797 sm4 .lf .lf)))) (.nd 435199644054537329849413 sm3 (.nd 427451775096903237514253 sm1 (.nd 427451775096901242860613 sm3 (.nd 425903225845041382700101 sm44 (.nd 425902201305471222166597 sm1 .lf .lf) .lf) (.nd 427451775096902064944197 sm1 .lf .lf)) (.nd 435198115035322261845061 sm4 (.nd 435197090513065181590597 sm4 (.nd 427451775096903239349317 sm1 .lf .lf) .lf) (.nd 435199644054056278832197 sm1 .lf .lf))) (.nd 435713615140515009934405 sm59 (.nd 435199659847442239730757 sm7 (.nd 435199644085324594951237 sm1 (.nd 435199644084843543934021 sm3 .lf .lf) .lf) (.nd 435199659847923290747973 sm4 .lf .lf)) (.nd 435716152919388462396485 sm4 (.nd 435716152918907411379269 sm7 (.nd 435714608076002047439941 sm42 .lf .lf) .lf) (.nd 435716168650718842074181 sm3 .lf .lf)))))
def lo_16 : BT := (.nd 459474314032368628937797 sm3 (.nd 435716168681506107176005 sm3 (.nd 435716168680904826433621 sm3 (.nd 435716168651200832615493 sm1 (.nd 435716168651200830780429 sm1 (.nd 435716168651199893091397 sm1 .lf .lf) .lf) (.nd 435716168680904793403477 sm1 .lf .lf)) (.nd 435716168681505167651909 sm8 (.nd 435716168681385844421141 sm1 (.nd 435716168680964924780685 sm1 .lf .lf) .lf) (.nd 435716168681506107175557 sm1 .lf .lf))) (.nd 435716168681987156358157 sm3 (.nd 435716168681986218669125 sm1 (.nd 435716168681927028651077 sm3 (.nd 435716168681927026816013 sm1 .lf .lf) .lf) (.nd 435716168681987125163077 sm3 .lf .lf)) (.nd 459474030305591840355397 sm3 (.nd 435716168681987158193221 sm1 (.nd 435716168681987158192773 sm3 .lf .lf) .lf) (.nd 459474314001100312818757 sm45 .lf .lf)))) (.nd 463608496896955063088197 sm1 (.nd 459476583855241591665733 sm1 (.nd 459476300128464803083333 sm1 (.nd 459476300119806149014597 sm1 (.nd 459475275459011132142661 sm40 .lf .lf) .lf) (.nd 459476583846582937596997 sm1 .lf .lf)) (.nd 459993092689305459110981 sm1 (.nd 459992935058507990971461 sm3 (.nd 459992824716949763273797 sm1 .lf .lf) .lf) (.nd 463608386555396835390533 sm3 .lf .lf))) (.nd 464640269219247356523589 sm49 (.nd 464638220081418811356229 sm3 (.nd 464638093976780954285125 sm3 (.nd 463608654527752531227717 sm1 .lf .lf) .lf) (.nd 464638220120381565580357 sm47 .lf .lf)) (.nd 464641546091242409047109 sm1 (.nd 464641546091242407212045 sm1 (.nd 464641546091242291606597 sm1 .lf .lf) .lf) (.nd 464641672195880148677701 sm1 .lf .lf)))))
def lo_14 : BT := .nd 435716168650719781598277 sm8 lo_15 lo_16
def lo_10 : BT := .nd 394396470685266406945861 sm4 lo_11 lo_14
def lo_2 : BT := .nd 3171206603813396 sm1 lo_3 lo_10
def lo_20 : BT := (.nd 468773295591003389821597 sm1 (.nd 468770164754638969123909 sm4 (.nd 468257218271247591420997 sm1 (.nd 468254664699950280094789 sm52 (.nd 468253671608612225692741 sm37 (.nd 464641672195880266118213 sm1 .lf .lf) .lf) (.nd 468257218240941377336389 sm3 (.nd 468257218240460326319173 sm3 .lf .lf) .lf)) (.nd 468257234034327338234949 sm1 (.nd 468257234033846287217733 sm1 (.nd 468257218271728642438213 sm1 .lf .lf) .lf) (.nd 468770164649292011287621 sm1 .lf .lf))) (.nd 468771189327402222367813 sm4 (.nd 468770322384474217788485 sm1 (.nd 468770290859276826195013 sm1 (.nd 468770290753929868358725 sm1 .lf .lf) .lf) (.nd 468771189327400108438597 sm1 .lf .lf)) (.nd 468771473054179009115149 sm3 (.nd 468771473054176897020997 sm1 (.nd 468771425766382923560005 sm1 .lf .lf) .lf) (.nd 468771473054179010950213 sm1 .lf .lf)))) (.nd 468773297571129459618829 sm67 (.nd 468773295604172161418333 sm25 (.nd 468773295600744375657997 sm5 (.nd 468773295591484440838813 sm3 (.nd 468773295591003509100757 sm5 .lf .lf) .lf) (.nd 468773295604172161417885 sm3 .lf .lf)) (.nd 468773297561388358173397 sm1 (.nd 468773295604653212435549 sm6 (.nd 468773295604653212435101 sm1 .lf .lf) .lf) (.nd 468773297561388473782429 sm5 .lf .lf))) (.nd 468773311354083538502749 sm1 (.nd 468773311353602487485533 sm8 (.nd 468773311353602085618781 sm3 (.nd 468773297574917802430621 sm82 .lf .lf) .lf) (.nd 468773311354083136635997 sm1 .lf .lf)) (.nd 468773311366770708583957 sm72 (.nd 468773311366770455348317 sm8 (.nd 468773311358954016743629 sm70 .lf .lf) .lf) (.nd 468773311366770857214621 sm25 .lf .lf)))))
def lo_21 : BT := (.nd 468773423667108664448197 sm3 (.nd 468773331057932820153997 sm1 (.nd 468773315299062141289677 sm3 (.nd 468773311367251908232285 sm1 (.nd 468773311367251908231837 sm6 (.nd 468773311367251506365533 sm1 .lf .lf) .lf) (.nd 468773315294853073339597 sm1 .lf .lf)) (.nd 468773329087548070168149 sm3 (.nd 468773329087547851802197 sm1 (.nd 468773315307901183984845 sm1 .lf .lf) .lf) (.nd 468773329087548237153877 sm1 .lf .lf))) (.nd 468773421695641364336797 sm1 (.nd 468773331065509261750357 sm74 (.nd 468773331065509142471197 sm5 (.nd 468773331061841590886941 sm79 .lf .lf) .lf) (.nd 468773421695641248727765 sm5 .lf .lf)) (.nd 468773423666026213409437 sm5 (.nd 468773421705382234564165 sm60 (.nd 468773421701594486276821 sm77 .lf .lf) .lf) (.nd 468773423666026332688597 sm1 .lf .lf)))) (.nd 468773459131873431261397 sm3 (.nd 468773423675767351555141 sm4 (.nd 468773423674685019795541 sm8 (.nd 468773423674684986765397 sm3 (.nd 468773423671859076272341 sm5 .lf .lf) .lf) (.nd 468773423675767318524997 sm1 .lf .lf)) (.nd 468773453230639900660765 sm1 (.nd 468773453221800857965597 sm1 (.nd 468773453217591790015517 sm3 .lf .lf) .lf) (.nd 468773459129047454724181 sm75 .lf .lf))) (.nd 468773459140532052308053 sm8 (.nd 468773459132955763029061 sm1 (.nd 468773459132955763020997 sm1 (.nd 468773459131873431269461 sm25 .lf .lf) .lf) (.nd 468773459140531966059037 sm78 .lf .lf)) (.nd 468773459141612303168581 sm4 (.nd 468773459140532085338197 sm3 (.nd 468773459140532085330133 sm25 .lf .lf) .lf) (.nd 468773459141614384067653 sm4 .lf .lf)))))
def lo_19 : BT := .nd 468773311366770857215069 sm3 lo_20 lo_21
def lo_23 : BT := (.nd 468773585237593737536197 sm1 (.nd 468773563563359252652125 sm1 (.nd 468773474896035509835397 sm1 (.nd 468773470955265573131797 sm1 (.nd 468773470950395170140805 sm62 (.nd 468773459141614417097797 sm1 .lf .lf) .lf) (.nd 468773470958212159243357 sm80 (.nd 468773470958212010612245 sm5 .lf .lf) .lf)) (.nd 468773563563358867300445 sm3 (.nd 468773474896035509843013 sm1 (.nd 468773474896035509838533 sm3 .lf .lf) .lf) (.nd 468773563563359085666397 sm1 .lf .lf))) (.nd 468773579318862510163597 sm5 (.nd 468773567504129022369997 sm1 (.nd 468773567501182584889549 sm5 (.nd 468773567501182436258437 sm63 .lf .lf) .lf) (.nd 468773567508999425360989 sm81 .lf .lf)) (.nd 468773579330347140777613 sm68 (.nd 468773579326438832480797 sm1 (.nd 468773579318862629442757 sm65 .lf .lf) .lf) (.nd 468773585237593737533061 sm3 .lf .lf)))) (.nd 468773616658406390772805 sm4 (.nd 468773614793368264648261 sm3 (.nd 468773614787535519229453 sm5 (.nd 468773614783627276976797 sm5 (.nd 468773585237593737540677 sm1 .lf .lf) .lf) (.nd 468773614793368262813197 sm1 .lf .lf)) (.nd 468773614793428509799437 sm8 (.nd 468773614793368382092357 sm1 (.nd 468773614793368380257293 sm3 .lf .lf) .lf) (.nd 468773614793428511634501 sm4 .lf .lf))) (.nd 468773616763753229329933 sm3 (.nd 468773616763693217231885 sm8 (.nd 468773616757800109224973 sm66 (.nd 468773616754012360937629 sm83 .lf .lf) .lf) (.nd 468773616763693219066949 sm4 .lf .lf)) (.nd 468773616763753231168581 sm1 (.nd 468773616763753231164997 sm1 (.nd 468773616763753229333517 sm16 .lf .lf) .lf) (.nd 468773616763753346770445 sm16 .lf .lf)))))
def lo_24 : BT := (.nd 468773727100440578758165 sm73 (.nd 468773707402544140137541 sm1 (.nd 468773707393885453030597 sm3 (.nd 468773707392803121270997 sm3 (.nd 468773616763753348609093 sm1 (.nd 468773616763753348605509 sm1 .lf .lf) .lf) (.nd 468773707393885333751437 sm69 .lf .lf)) (.nd 468773707401461808377941 sm1 (.nd 468773707401461775347797 sm1 (.nd 468773707397553004614853 sm64 .lf .lf) .lf) (.nd 468773707402544107107397 sm1 .lf .lf))) (.nd 468773723164541522162197 sm1 (.nd 468773709372868977112133 sm1 (.nd 468773709372267663340053 sm3 (.nd 468773709371846743699597 sm1 .lf .lf) .lf) (.nd 468773723164120602521741 sm3 .lf .lf)) (.nd 468773727092623738286725 sm3 (.nd 468773727092142687269509 sm3 (.nd 468773723165142835934277 sm1 .lf .lf) .lf) (.nd 468773727092623886917837 sm71 .lf .lf)))) (.nd 468773740898006239163461 sm1 (.nd 468773740884476793071173 sm61 (.nd 468773727105792509883013 sm1 (.nd 468773727105311458866245 sm1 (.nd 468773727105311458865797 sm1 .lf .lf) .lf) (.nd 468773727105792509883461 sm1 .lf .lf)) (.nd 468773740898006121719365 sm3 (.nd 468773740898006119884301 sm3 (.nd 468773740888265135882965 sm76 .lf .lf) .lf) (.nd 468773740898006237328397 sm1 .lf .lf))) (.nd 468773742824616898999365 sm1 (.nd 468773742763044247843909 sm1 (.nd 468773740898066368705605 sm1 (.nd 468773740898066366870541 sm1 .lf .lf) .lf) (.nd 468773742767373574878277 sm1 .lf .lf)) (.nd 468773742837603940578373 sm1 (.nd 468773742837123829085253 sm4 (.nd 468773742837122889561157 sm1 .lf .lf) .lf) (.nd 468773742837604878267405 sm3 .lf .lf)))))
def lo_22 : BT := .nd 468773616763753346774029 sm3 lo_23 lo_24
def lo_18 : BT := .nd 468773459141614417089733 sm1 lo_19 lo_22
def lo_27 : BT := (.nd 468773742868331076138053 sm1 (.nd 468773742867308840890453 sm1 (.nd 468773742858650219843797 sm1 (.nd 468773742855222434083909 sm1 (.nd 468773742854741784933445 sm4 (.nd 468773742854741383066693 sm1 .lf .lf) .lf) (.nd 468773742855343095034949 sm1 (.nd 468773742855222835950661 sm1 .lf .lf) .lf)) (.nd 468773742859732551603397 sm1 (.nd 468773742859552162985029 sm1 (.nd 468773742858650219851861 sm6 .lf .lf) .lf) (.nd 468773742859732551611461 sm1 .lf .lf))) (.nd 468773742867909215138885 sm4 (.nd 468773742867368972267661 sm1 (.nd 468773742867308873920597 sm1 (.nd 468773742867308873912533 sm6 .lf .lf) .lf) (.nd 468773742867789891908117 sm1 .lf .lf)) (.nd 468773742867910154662981 sm1 (.nd 468773742867910154662533 sm1 (.nd 468773742867909752796229 sm4 .lf .lf) .lf) (.nd 468773742868331074302989 sm1 .lf .lf)))) (.nd 468773742868391088236101 sm1 (.nd 468773742868390803813445 sm1 (.nd 468773742868390031275077 sm1 (.nd 468773742868389209191493 sm1 (.nd 468773742868389091750981 sm1 .lf .lf) .lf) (.nd 468773742868390266156101 sm1 .lf .lf)) (.nd 468773742868391086401037 sm1 (.nd 468773742868391038694469 sm1 (.nd 468773742868390820328517 sm1 .lf .lf) .lf) (.nd 468773742868391086404621 sm5 .lf .lf))) (.nd 468773742868391205672133 sm1 (.nd 468773742868391203841549 sm5 (.nd 468773742868391172650053 sm1 (.nd 468773742868391088239685 sm1 .lf .lf) .lf) (.nd 468773742868391203845133 sm1 .lf .lf)) (.nd 468773742868391205676613 sm1 (.nd 468773742868391205675717 sm1 (.nd 468773742868391205672581 sm1 .lf .lf) .lf) (.nd 468773742868391205679749 sm1 .lf .lf)))))
def lo_28 : BT := (.nd 3394850582384699653924533296313414 sm4 (.nd 3390417494935509657764924774298694 sm3 (.nd 3390413923755015595651908173706254 sm3 (.nd 3390413788359003940265034962580494 sm4 (.nd 3390413788354807289979376753849414 sm1 (.nd 3390413788354807289979376739169294 sm1 .lf .lf) .lf) (.nd 3390413788359003940265034977260614 sm4 .lf .lf)) (.nd 3390416530198566215857422936192070 sm4 (.nd 3390416530198566215857422921511950 sm4 (.nd 3390413923755015595651908188386374 sm3 .lf .lf) .lf) (.nd 3390417494935509657764924759618574 sm3 .lf .lf))) (.nd 3390417630335717965407781031130126 sm9 (.nd 3390417630335717963437456194155534 sm3 (.nd 3390417494935509659735249611273286 sm9 (.nd 3390417494935509659735249596593166 sm9 .lf .lf) .lf) (.nd 3390417630335717963437456208835654 sm1 .lf .lf)) (.nd 3394850582380632131339972249007174 sm1 (.nd 3394850582380632131339972234327054 sm1 (.nd 3390417630335717965407781045810246 sm4 .lf .lf) .lf) (.nd 3394850582384699653924533281633294 sm4 .lf .lf)))) (.nd 3425908140561406020864140715111494 sm1 (.nd 3425908005161197715191609265894414 sm3 (.nd 3394854390507423236827973965722638 sm58 (.nd 3394853324228458579802579478656070 sm43 (.nd 3394853324228458579802579463975950 sm43 .lf .lf) .lf) (.nd 3394854390507423236827973980402758 sm58 .lf .lf)) (.nd 3425908005175337144524107651888198 sm7 (.nd 3425908005175337144524107637208078 sm7 (.nd 3425908005161197715191609280574534 sm3 .lf .lf) .lf) (.nd 3425908140561406020864140700431374 sm1 .lf .lf))) (.nd 3425911711727760653644658915030030 sm7 (.nd 3425909511496908416369837921940494 sm46 (.nd 3425908140575545450196639086425158 sm1 (.nd 3425908140575545450196639071745038 sm3 .lf .lf) .lf) (.nd 3425909511496908416369837936620614 sm46 .lf .lf)) (.nd 3425911711736670450981799617508422 sm48 (.nd 3425911711736670450981799602828302 sm48 (.nd 3425911711727760653644658929710150 sm7 .lf .lf) .lf) (.nd 3425911711741900081006832449369102 sm9 .lf .lf)))))
def lo_26 : BT := .nd 468773742868391205680197 sm0 lo_27 lo_28
def lo_30 : BT := (.nd 3465839286807387950003676691969094 sm1 (.nd 3434781728613055703585331705427014 sm1 (.nd 3425911847142108386679363883906062 sm9 (.nd 3425911847127968959317190349566990 sm3 (.nd 3425911711741900082977157301023814 sm3 (.nd 3425911711741900082977157286343694 sm3 .lf .lf) .lf) (.nd 3425911847127968959317190364247110 sm1 .lf .lf)) (.nd 3425911847142108388649688735560774 sm1 (.nd 3425911847142108388649688720880654 sm3 (.nd 3425911847142108386679363898586182 sm4 .lf .lf) .lf) (.nd 3434781728613055703585331690746894 sm1 .lf .lf))) (.nd 3465839286793829593109500156851214 sm1 (.nd 3434785401329695692828764448109582 sm3 (.nd 3434782913360358925921922917479494 sm3 (.nd 3434782913360358925921922902799374 sm3 .lf .lf) .lf) (.nd 3434785401329695692828764462789702 sm1 .lf .lf)) (.nd 3465839286801512662016200199779398 sm3 (.nd 3465839286801512662016200185099278 sm3 (.nd 3465839286793829593109500171531334 sm1 .lf .lf) .lf) (.nd 3465839286807387950003676677288974 sm3 .lf .lf)))) (.nd 3674368606003529614472927396639814 sm4 (.nd 3470278213364800265708576016053262 sm4 (.nd 3470277180954481963228535652234254 sm55 (.nd 3470276080819654434470095666689094 sm1 (.nd 3470276080819654434470095652008974 sm1 .lf .lf) .lf) (.nd 3470277180954481963228535666914374 sm55 .lf .lf)) (.nd 3470278213368996915994234254144582 sm50 (.nd 3470278213368996915994234239464462 sm50 (.nd 3470278213364800265708576030733382 sm4 .lf .lf) .lf) (.nd 3674368606003529614472927381959694 sm4 .lf .lf))) (.nd 3674371347847288540350973564302350 sm36 (.nd 3674370281589242411307009796617230 sm53 (.nd 3674368606007597137057488443946054 sm1 (.nd 3674368606007597137057488429265934 sm1 .lf .lf) .lf) (.nd 3674370281589242411307009811297350 sm53 .lf .lf)) (.nd 3678805400029225328132425715692614 sm4 (.nd 3678805400029225328132425701012494 sm4 (.nd 3674371347847288540350973578982470 sm36 .lf .lf) .lf) (.nd 3678805400033421978418083924423694 sm1 .lf .lf)))))
def lo_31 : BT := (.nd 3758666592379711684488607040943174 sm51 (.nd 3678808141877180904296130121446470 sm1 (.nd 3678807837227874356976347197617166 sm3 (.nd 3678807041760947684697527568184334 sm4 (.nd 3678805704682728525737866848252998 sm3 (.nd 3678805704682728525737866833572878 sm3 .lf .lf) .lf) (.nd 3678807041760947684697527582864454 sm4 .lf .lf)) (.nd 3678807837229036501852990914049094 sm7 (.nd 3678807837229036501852990899368974 sm7 (.nd 3678807837227874356976347212297286 sm3 .lf .lf) .lf) (.nd 3678808141877180904296130106766350 sm3 .lf .lf))) (.nd 3745357310420794598827016351790094 sm1 (.nd 3745356125673491376490425139737614 sm3 (.nd 3678808141878343049172773823198278 sm4 (.nd 3678808141878343049172773808518158 sm7 .lf .lf) .lf) (.nd 3745356125673491376490425154417734 sm3 .lf .lf)) (.nd 3745359798390131365733857911780422 sm1 (.nd 3745359798390131365733857897100302 sm3 (.nd 3745357310420794598827016366470214 sm1 .lf .lf) .lf) (.nd 3758666592379711684488607026263054 sm51 .lf .lf)))) (.nd 3758667692498269158336166863712790 sm1 (.nd 3758667692498269122908802837263374 sm1 (.nd 3758667387848962611054866993656846 sm9 (.nd 3758667387848962575589019942794310 sm3 (.nd 3758667387848962575589019928114190 sm3 .lf .lf) .lf) (.nd 3758667387848962611054867008336966 sm9 .lf .lf)) (.nd 3758667692498269158305380684935254 sm3 (.nd 3758667692498269158305380420694102 sm1 (.nd 3758667692498269122908802851943494 sm1 .lf .lf) .lf) (.nd 3758667692498269158309228726071438 sm1 .lf .lf))) (.nd 3758667692498269158374649653244998 sm3 (.nd 3758667692498269158370801612108814 sm1 (.nd 3758667692498269158343863474467910 sm3 (.nd 3758667692498269158343863474467462 sm1 .lf .lf) .lf) (.nd 3758667692498269158370801626788934 sm3 .lf .lf)) (.nd 3758667692498269158374649917486150 sm1 (.nd 3758667692498269158374649917485702 sm3 (.nd 3758667692498269158374649902806030 sm3 .lf .lf) .lf) (.nd 3758669825039218303861624977896462 sm54 .lf .lf)))))
def lo_29 : BT := .nd 3678805400033421978418083939103814 sm1 lo_30 lo_31
def lo_25 : BT := .nd 3425911711741900081006832464049222 sm9 lo_26 lo_29
def lo_17 : BT := .nd 468773742837604880102469 sm1 lo_18 lo_25
def lo_1 : BT := .nd 464641672195880264283149 sm3 lo_2 lo_17
def lo_36 : BT := (.nd 3758670129692721501467066125136518 sm3 (.nd 3758670129692721501397796628344918 sm3 (.nd 3758669825043414954147283215987782 sm3 (.nd 3758669825043414918681436135765006 sm9 (.nd 3758669825042252809270639514235974 sm7 (.nd 3758669825042252809270639499555854 sm7 .lf .lf) .lf) (.nd 3758669825043414954147283201307662 sm3 (.nd 3758669825043414918681436150445126 sm9 .lf .lf) .lf)) (.nd 3758670129692721466001219044914190 sm3 (.nd 3758670129691559356590422423385158 sm4 (.nd 3758670129691559356590422408705038 sm7 .lf .lf) .lf) (.nd 3758670129692721466001219059594310 sm1 .lf .lf))) (.nd 3758670129692721501436279682118726 sm3 (.nd 3758670129692721501428583071363606 sm3 (.nd 3758670129692721501401644933722254 sm3 (.nd 3758670129692721501397796892586070 sm3 .lf .lf) .lf) (.nd 3758670129692721501436279682118278 sm3 .lf .lf)) (.nd 3758670129692721501467065860895814 sm3 (.nd 3758670129692721501463217834439750 sm3 (.nd 3758670129692721501463217819759630 sm3 .lf .lf) .lf) (.nd 3758670129692721501467066110456846 sm3 .lf .lf)))) (.nd 3794162044704867853793566798525454 sm1 (.nd 3785288456653218171072375822890054 sm1 (.nd 3785287085734502376709311495025734 sm38 (.nd 3785287085734502376709311480345614 sm38 (.nd 3758670129692721501467066125136966 sm1 .lf .lf) .lf) (.nd 3785288456653218171072375808209934 sm1 .lf .lf)) (.nd 3785289285984723675311988528264206 sm56 (.nd 3785289285979494043316630859428934 sm4 (.nd 3785289285979494043316630844748814 sm4 .lf .lf) .lf) (.nd 3785289285984723675311988542944326 sm56 .lf .lf))) (.nd 3794162044704867887219819809222742 sm3 (.nd 3794162044704867867585840672027718 sm3 (.nd 3794162044704867867585840657347598 sm3 (.nd 3794162044704867853793566813205574 sm1 .lf .lf) .lf) (.nd 3794162044704867887219819544981590 sm1 .lf .lf)) (.nd 3794162044704867887258302598754950 sm1 (.nd 3794162044704867887250605988000278 sm1 (.nd 3794162044704867887223667850358926 sm1 .lf .lf) .lf) (.nd 3794162044704867887258302598755398 sm3 .lf .lf)))))
def lo_37 : BT := (.nd 4029309995528438614666647677842446 sm4 (.nd 3993817775872861003007840572814350 sm3 (.nd 3794162044704867887289089041773638 sm1 (.nd 3794162044704867887289089027093518 sm3 (.nd 3794162044704867887289088777532486 sm3 (.nd 3794162044704867887285240751076422 sm3 .lf .lf) .lf) (.nd 3794162044704867887289089041773190 sm3 .lf .lf)) (.nd 3993817775866985715020364080624654 sm1 (.nd 3993817775859302646113664067056710 sm3 (.nd 3993817775859302646113664052376590 sm3 .lf .lf) .lf) (.nd 3993817775866985715020364095304774 sm1 .lf .lf))) (.nd 4002690534592359525497300049081414 sm4 (.nd 4002690534587129893501942365566022 sm39 (.nd 4002690534587129893501942350885902 sm39 (.nd 3993817775872861003007840587494470 sm1 .lf .lf) .lf) (.nd 4002690534592359525497300034401294 sm4 .lf .lf)) (.nd 4002692734837351192104619398804494 sm57 (.nd 4002691363918635397741555085620294 sm1 (.nd 4002691363918635397741555070940174 sm1 .lf .lf) .lf) (.nd 4002692734837351192104619413484614 sm57 .lf .lf)))) (.nd 4042622510151058969986914527360014 sm1 (.nd 4029312128073584445905128056566854 sm1 (.nd 4029309995532635264952305915933766 sm41 (.nd 4029309995532635264952305901253646 sm41 (.nd 4029309995528438614666647692522566 sm4 .lf .lf) .lf) (.nd 4029312128073584445905128041886734 sm1 .lf .lf)) (.nd 4042622510151058956194640668537870 sm3 (.nd 4029313228192141884325323867567174 sm44 (.nd 4029313228192141884325323852887054 sm44 .lf .lf) .lf) (.nd 4042622510151058956194640683217990 sm3 .lf .lf))) (.nd 4042622510151058989651679858012694 sm1 (.nd 4042622510151058989620893679235158 sm3 (.nd 4042622510151058989620893414994006 sm1 (.nd 4042622510151058969986914542040134 sm1 .lf .lf) .lf) (.nd 4042622510151058989624741720371342 sm1 .lf .lf)) (.nd 4042622510151058989686314606408718 sm1 (.nd 4042622510151058989659376468767814 sm3 (.nd 4042622510151058989659376468767366 sm1 .lf .lf) .lf) (.nd 4042622510151058989686314621088838 sm3 .lf .lf)))))
def lo_35 : BT := .nd 3794162044704867887285240736396302 sm1 lo_36 lo_37
def lo_39 : BT := (.nd 4113608472724565028462957329527878 sm59 (.nd 4109174420538496154246395557459014 sm3 (.nd 4109172778810905884116403310965774 sm4 (.nd 4042622510151058989690162911786054 sm1 (.nd 4042622510151058989690162911785606 sm3 (.nd 4042622510151058989690162897105934 sm3 .lf .lf) .lf) (.nd 4109171678694672664517800787063878 sm4 (.nd 4109171678694672664517800772383758 sm4 .lf .lf) .lf)) (.nd 4109174420538431590395846969406534 sm1 (.nd 4109174420538431590395846954726414 sm1 (.nd 4109172778810905884116403325645894 sm4 .lf .lf) .lf) (.nd 4109174420538496154246395542778894 sm3 .lf .lf))) (.nd 4109174437467525151435765035971598 sm7 (.nd 4109174420542628240681505178137614 sm3 (.nd 4109174420542563676830956604765254 sm3 (.nd 4109174420542563676830956590085134 sm3 .lf .lf) .lf) (.nd 4109174420542628240681505192817734 sm1 .lf .lf)) (.nd 4109174437467589715286313638704198 sm4 (.nd 4109174437467589715286313624024078 sm7 (.nd 4109174437467525151435765050651718 sm7 .lf .lf) .lf) (.nd 4113608472724565028462957314847758 sm59 .lf .lf)))) (.nd 4113611214564191883668492572308550 sm8 (.nd 4113611197643427043586743639356430 sm7 (.nd 4113611197643362479736195051303950 sm7 (.nd 4113609538982611157506921097212998 sm42 (.nd 4113609538982611157506921082532878 sm42 .lf .lf) .lf) (.nd 4113611197643362479736195065984070 sm7 .lf .lf)) (.nd 4113611214564191867905893876511814 sm3 (.nd 4113611214564191867905893861831694 sm3 (.nd 4113611197643427043586743654036550 sm4 .lf .lf) .lf) (.nd 4113611214564191883668492557628430 sm8 .lf .lf))) (.nd 4113611214564256447453619968946318 sm1 (.nd 4113611214564256447449771663568982 sm1 (.nd 4113611214564256431756442464564294 sm1 (.nd 4113611214564256431756442449884174 sm1 .lf .lf) .lf) (.nd 4113611214564256447449771927810134 sm3 .lf .lf)) (.nd 4113611214564256447488254717342790 sm3 (.nd 4113611214564256447488254717342342 sm1 (.nd 4113611214564256447480558106587670 sm1 .lf .lf) .lf) (.nd 4113611214564256447515192854983694 sm1 .lf .lf)))))
def lo_40 : BT := (.nd 4113611214568167588765456150168670 sm3 (.nd 4113611214568159519126913121911902 sm25 (.nd 4113611214568159518284134244287134 sm1 (.nd 4113611214564256447519041160360582 sm3 (.nd 4113611214564256447519041145680910 sm3 (.nd 4113611214564256447519040896119878 sm3 .lf .lf) .lf) (.nd 4113611214564256447519041160361030 sm1 .lf .lf)) (.nd 4113611214568159518907557337245198 sm5 (.nd 4113611214568159518314920687305374 sm3 (.nd 4113611214568159518284135198494934 sm5 .lf .lf) .lf) (.nd 4113611214568159519126913121911454 sm3 .lf .lf))) (.nd 4113611214568160527717723098461198 sm67 (.nd 4113611214568160527094299080655574 sm1 (.nd 4113611214568159519157699564930142 sm25 (.nd 4113611214568159519157699564929694 sm3 .lf .lf) .lf) (.nd 4113611214568160527094300005503134 sm5 .lf .lf)) (.nd 4113611214568167588734669707150430 sm8 (.nd 4113611214568167588734666492216414 sm3 (.nd 4113611214568160527960166865703070 sm82 .lf .lf) .lf) (.nd 4113611214568167588765452935234654 sm1 .lf .lf)))) (.nd 4113611214568169606655162956776654 sm3 (.nd 4113611214568167589577445369840734 sm3 (.nd 4113611214568167589577444180760086 sm72 (.nd 4113611214568167589577442154906718 sm8 (.nd 4113611214568167589077167579209934 sm70 .lf .lf) .lf) (.nd 4113611214568167589577445369840286 sm25 .lf .lf)) (.nd 4113611214568167589608231812858974 sm3 (.nd 4113611214568167589608231812858526 sm25 (.nd 4113611214568167589608228597924958 sm3 .lf .lf) .lf) (.nd 4113611214568169606385782607971534 sm1 .lf .lf))) (.nd 4113611214568177676867101298919054 sm1 (.nd 4113611214568176668056938209478230 sm3 (.nd 4113611214568176668056936462550614 sm1 (.nd 4113611214568169607220861689267406 sm3 .lf .lf) .lf) (.nd 4113611214568176668056939545364054 sm3 .lf .lf)) (.nd 4113611214568177677351986880983126 sm74 (.nd 4113611214568177677351985926775326 sm5 (.nd 4113611214568177677117242998137374 sm79 .lf .lf) .lf) (.nd 4113611214568224082134682847019734 sm5 .lf .lf)))))
def lo_38 : BT := .nd 4113611214564256447515192869663814 sm3 lo_39 lo_40
def lo_34 : BT := .nd 4042622510151058989690162647544902 sm3 lo_35 lo_38
def lo_43 : BT := (.nd 4113611214568243250012700290715862 sm25 (.nd 4113611214568240222827940804957214 sm3 (.nd 4113611214568225091318134229831894 sm5 (.nd 4113611214568225090944847654027934 sm5 (.nd 4113611214568224082758105939977798 sm60 (.nd 4113611214568224082515666929058518 sm77 .lf .lf) .lf) (.nd 4113611214568225091014117840786630 sm3 (.nd 4113611214568225090944848608235734 sm1 .lf .lf) .lf)) (.nd 4113611214568225091568271701193798 sm3 (.nd 4113611214568225091499002732884054 sm8 (.nd 4113611214568225091499002468642902 sm3 .lf .lf) .lf) (.nd 4113611214568225091568271965434950 sm8 .lf .lf))) (.nd 4113611214568243249458546430324822 sm25 (.nd 4113611214568243249277677663039574 sm75 (.nd 4113611214568240223663019886253086 sm3 (.nd 4113611214568240223097321153762334 sm1 .lf .lf) .lf) (.nd 4113611214568243249458546430316758 sm3 .lf .lf)) (.nd 4113611214568243250012699336516126 sm78 (.nd 4113611214568243249527815662875718 sm3 (.nd 4113611214568243249527815662867654 sm1 .lf .lf) .lf) (.nd 4113611214568243250012700026482774 sm8 .lf .lf)))) (.nd 4113611214568251320009134353818310 sm3 (.nd 4113611214568249302077093853934214 sm62 (.nd 4113611214568243250081969523266758 sm3 (.nd 4113611214568243250081969259033670 sm8 (.nd 4113611214568243250012700290723926 sm3 .lf .lf) .lf) (.nd 4113611214568243250081969523274822 sm3 .lf .lf)) (.nd 4113611214568249302577372833645662 sm80 (.nd 4113611214568249302577371644565014 sm5 (.nd 4113611214568249302388804681078294 sm1 .lf .lf) .lf) (.nd 4113611214568251320009134353815174 sm1 .lf .lf))) (.nd 4113611214568298733898313510564486 sm63 (.nd 4113611214568296716466551990394974 sm1 (.nd 4113611214568296716466550243467358 sm3 (.nd 4113611214568251320009134353822790 sm3 .lf .lf) .lf) (.nd 4113611214568296716466553326280798 sm3 .lf .lf)) (.nd 4113611214568298734398592490275934 sm81 (.nd 4113611214568298734086881663131854 sm1 (.nd 4113611214568298733898314699645134 sm5 .lf .lf) .lf) (.nd 4113611214568304786462986053486222 sm5 .lf .lf)))))
def lo_44 : BT := (.nd 4113611214568323954341002557662734 sm3 (.nd 4113611214568322945530838675502094 sm3 (.nd 4113611214568307813378365190452294 sm3 (.nd 4113611214568307813378365190444678 sm3 (.nd 4113611214568304787198008681170574 sm68 (.nd 4113611214568304786947870681342494 sm1 .lf .lf) .lf) (.nd 4113611214568307813378365190447814 sm1 .lf .lf)) (.nd 4113611214568322945530837735974414 sm1 (.nd 4113611214568322945157552114378254 sm5 (.nd 4113611214568322944907414643016350 sm5 .lf .lf) .lf) (.nd 4113611214568322945530837750654534 sm3 .lf .lf))) (.nd 4113611214568323938578404816073798 sm8 (.nd 4113611214568322945534686980879430 sm8 (.nd 4113611214568322945534686966199310 sm8 (.nd 4113611214568322945530838690182214 sm3 .lf .lf) .lf) (.nd 4113611214568323938578404801393678 sm8 .lf .lf)) (.nd 4113611214568323954337155206493198 sm8 (.nd 4113611214568323953960019415151630 sm66 (.nd 4113611214568323953717580404232350 sm83 .lf .lf) .lf) (.nd 4113611214568323954337155221173318 sm8 .lf .lf)))) (.nd 4113611214568370359123700417434822 sm3 (.nd 4113611214568323954341003497190414 sm3 (.nd 4113611214568323954341002572346438 sm3 (.nd 4113611214568323954341002572342854 sm1 (.nd 4113611214568323954341002557666318 sm16 .lf .lf) .lf) (.nd 4113611214568323954341003497186830 sm16 .lf .lf)) (.nd 4113611214568370359054431184883926 sm3 (.nd 4113611214568323954341003511870534 sm3 (.nd 4113611214568323954341003511866950 sm3 .lf .lf) .lf) (.nd 4113611214568370359123699463227022 sm69 .lf .lf))) (.nd 4113611214568370359677854542083142 sm3 (.nd 4113611214568370359608585309532246 sm3 (.nd 4113611214568370359608585045291094 sm1 (.nd 4113611214568370359358443346072774 sm64 .lf .lf) .lf) (.nd 4113611214568370359677854277841990 sm3 .lf .lf)) (.nd 4113611214568371368484171073074246 sm3 (.nd 4113611214568371368445688019300886 sm3 (.nd 4113611214568371368418749881659534 sm1 .lf .lf) .lf) (.nd 4113611214568378430062965598597262 sm3 .lf .lf)))))
def lo_42 : BT := .nd 4113611214568304786462987007694022 sm65 lo_43 lo_44
def lo_46 : BT := (.nd 4113611214568388517317986779280454 sm3 (.nd 4113611214568387508515519478507078 sm61 (.nd 4113611214568380447398518765000214 sm73 (.nd 4113611214568380446898240974369414 sm3 (.nd 4113611214568380446867454531351174 sm3 (.nd 4113611214568378430128386790011974 sm3 .lf .lf) .lf) (.nd 4113611214568380446898242163450062 sm71 .lf .lf)) (.nd 4113611214568380447741019851993734 sm3 (.nd 4113611214568380447710233408975942 sm3 (.nd 4113611214568380447710233408975494 sm1 .lf .lf) .lf) (.nd 4113611214568380447741019851994182 sm3 .lf .lf))) (.nd 4113611214568387509381387278234694 sm3 (.nd 4113611214568387509381386338707014 sm3 (.nd 4113611214568387509381386324026894 sm3 (.nd 4113611214568387508757963245748950 sm76 .lf .lf) .lf) (.nd 4113611214568387509381387263554574 sm1 .lf .lf)) (.nd 4113611214568388502428953389446158 sm3 (.nd 4113611214568387509385235568931910 sm3 (.nd 4113611214568387509385235554251790 sm3 .lf .lf) .lf) (.nd 4113611214568388502428953404126278 sm1 .lf .lf)))) (.nd 4113611214568388518122282603130966 sm3 (.nd 4113611214568388517568129006964950 sm3 (.nd 4113611214568388517348776437232710 sm3 (.nd 4113611214568388517348773222298694 sm3 (.nd 4113611214568388517317989994214470 sm8 .lf .lf) .lf) (.nd 4113611214568388517356473018627142 sm3 .lf .lf)) (.nd 4113611214568388517637398239515846 sm3 (.nd 4113611214568388517625853367432262 sm3 (.nd 4113611214568388517568129006973014 sm25 .lf .lf) .lf) (.nd 4113611214568388517637398239523910 sm3 .lf .lf))) (.nd 4113611214568388518160762441970758 sm8 (.nd 4113611214568388518126130908508302 sm3 (.nd 4113611214568388518122282867372118 sm3 (.nd 4113611214568388518122282867364054 sm25 .lf .lf) .lf) (.nd 4113611214568388518153069046149654 sm3 .lf .lf)) (.nd 4113611214568388518187703794545678 sm3 (.nd 4113611214568388518160765656904774 sm3 (.nd 4113611214568388518160765656904326 sm3 .lf .lf) .lf) (.nd 4113611214568388518187703809225798 sm3 .lf .lf)))))
def lo_47 : BT := (.nd 4317701607207053303105354863096846 sm3 (.nd 4113611214568388518191552099914950 sm3 (.nd 4113611214568388518191551160395334 sm3 (.nd 4113611214568388518191551145715214 sm3 (.nd 4113611214568388518191550764037190 sm3 (.nd 4113611214568388518191549017109574 sm3 .lf .lf) .lf) (.nd 4113611214568388518191551145718798 sm16 .lf .lf)) (.nd 4113611214568388518191552085239310 sm16 (.nd 4113611214568388518191551835681862 sm3 (.nd 4113611214568388518191551160398918 sm3 .lf .lf) .lf) (.nd 4113611214568388518191552085242894 sm3 .lf .lf))) (.nd 4113611214568388518191552099923014 sm1 (.nd 4113611214568388518191552099919430 sm3 (.nd 4113611214568388518191552099918534 sm3 (.nd 4113611214568388518191552099915398 sm3 .lf .lf) .lf) (.nd 4113611214568388518191552099922566 sm3 .lf .lf)) (.nd 4317701607202856652819696639685646 sm45 (.nd 4317701302557746755785571968627782 sm3 (.nd 4317701302557746755785571953947662 sm3 .lf .lf) .lf) (.nd 4317701607202856652819696654365766 sm45 .lf .lf)))) (.nd 4317704044402667826540261838042126 sm3 (.nd 4317703739752199134343835241821254 sm1 (.nd 4317702639617371605585395241595974 sm40 (.nd 4317702639617371605585395226915854 sm40 (.nd 4317701607207053303105354877776966 sm3 .lf .lf) .lf) (.nd 4317703739752199134343835227141134 sm1 .lf .lf)) (.nd 4317704044401505681663618136290318 sm3 (.nd 4317703739753361279220478943573062 sm1 (.nd 4317703739753361279220478928892942 sm3 .lf .lf) .lf) (.nd 4317704044401505681663618150970438 sm1 .lf .lf))) (.nd 4322140652253206244891929974551622 sm3 (.nd 4322140533778023975704430736979014 sm1 (.nd 4322140533778023975704430722298894 sm1 (.nd 4317704044402667826540261852722246 sm1 .lf .lf) .lf) (.nd 4322140652253206244891929959871502 sm3 .lf .lf)) (.nd 4353197973483615596041099950830606 sm3 (.nd 4322140821503466629445500313941062 sm1 (.nd 4322140821503466629445500299260942 sm3 .lf .lf) .lf) (.nd 4353197973483615596041099965510726 sm3 .lf .lf)))))
def lo_45 : BT := .nd 4113611214568388518191548884988998 sm3 lo_46 lo_47
def lo_41 : BT := .nd 4113611214568378430089903736238614 sm1 lo_42 lo_45
def lo_33 : BT := .nd 4113611214568224082134683771867294 sm1 lo_34 lo_41
def lo_51 : BT := (.nd 4362071680010447549916266739676230 sm3 (.nd 4362070309074945152444092971889734 sm49 (.nd 4362068108829953485836773592806414 sm3 (.nd 4353198261209058249782169542472774 sm1 (.nd 4353198261209058249782169527792654 sm3 (.nd 4353198091958797865228599203083334 sm1 .lf .lf) .lf) (.nd 4362067973429745180164242172949574 sm3 (.nd 4362067973429745180164242158269454 sm3 .lf .lf) .lf)) (.nd 4362068108835183117832131291001926 sm47 (.nd 4362068108835183117832131276321806 sm47 (.nd 4362068108829953485836773607486534 sm3 .lf .lf) .lf) (.nd 4362070309074945152444092957209614 sm49 .lf .lf))) (.nd 4362071680010447549854693838958734 sm1 (.nd 4362071680010447549850845533581398 sm1 (.nd 4362071680010447547949790193398854 sm1 (.nd 4362071680010447547949790178718734 sm1 .lf .lf) .lf) (.nd 4362071680010447549850845797822550 sm3 .lf .lf)) (.nd 4362071680010447549889328587355206 sm3 (.nd 4362071680010447549889328587354758 sm1 (.nd 4362071680010447549881631976600086 sm1 .lf .lf) .lf) (.nd 4362071680010447549916266724996110 sm1 .lf .lf)))) (.nd 4362071815410655855554163411137046 sm3 (.nd 4362071815410655853622321613255694 sm3 (.nd 4362071680010447549920115030372998 sm3 (.nd 4362071680010447549920115015693326 sm3 (.nd 4362071680010447549920114766132294 sm3 .lf .lf) .lf) (.nd 4362071680010447549920115030373446 sm1 .lf .lf)) (.nd 4362071815410655855523377232359510 sm3 (.nd 4362071815410655855523376968118358 sm3 (.nd 4362071815410655853622321627935814 sm1 .lf .lf) .lf) (.nd 4362071815410655855527225273495694 sm3 .lf .lf))) (.nd 4362071815410655855592646200669254 sm3 (.nd 4362071815410655855588798159533070 sm3 (.nd 4362071815410655855561860021892166 sm3 (.nd 4362071815410655855561860021891718 sm3 .lf .lf) .lf) (.nd 4362071815410655855588798174213190 sm3 .lf .lf)) (.nd 4362071815410655855592646464910406 sm1 (.nd 4362071815410655855592646464909958 sm3 (.nd 4362071815410655855592646450230286 sm3 .lf .lf) .lf) (.nd 4393125430064430331985956913427470 sm37 .lf .lf)))))
def lo_52 : BT := (.nd 4397562325636343911049006134211654 sm1 (.nd 4393129238191286001324507247555654 sm1 (.nd 4393129238187153914889397597516814 sm3 (.nd 4393129238187089351038849009464334 sm3 (.nd 4393126496343394989011351429854278 sm52 (.nd 4393126496343394989011351415174158 sm52 .lf .lf) .lf) (.nd 4393129238187089351038849024144454 sm3 .lf .lf)) (.nd 4393129238191221437473958659503174 sm1 (.nd 4393129238191221437473958644823054 sm1 (.nd 4393129238187153914889397612196934 sm3 .lf .lf) .lf) (.nd 4393129238191286001324507232875534 sm3 .lf .lf))) (.nd 4397562190236135605376474684994574 sm3 (.nd 4393129255116247475929315678761998 sm3 (.nd 4393129255116182912078767105389638 sm1 (.nd 4393129255116182912078767090709518 sm3 .lf .lf) .lf) (.nd 4393129255116247475929315693442118 sm1 .lf .lf)) (.nd 4397562190250275034708973070988358 sm4 (.nd 4397562190250275034708973056308238 sm7 (.nd 4397562190236135605376474699674694 sm1 .lf .lf) .lf) (.nd 4397562325636343911049006119531534 sm3 .lf .lf)))) (.nd 4397563544247709511927712609350726 sm1 (.nd 4397563290373287352956507957638158 sm3 (.nd 4397562359500406289591121382618126 sm3 (.nd 4397562325650483340381504505525318 sm1 (.nd 4397562325650483340381504490845198 sm3 .lf .lf) .lf) (.nd 4397562359500406289591121397298246 sm1 .lf .lf)) (.nd 4397563290373287388422355037860934 sm4 (.nd 4397563290373287388422355023180814 sm9 (.nd 4397563290373287352956507972318278 sm1 .lf .lf) .lf) (.nd 4397563544247709511927712594670606 sm3 .lf .lf))) (.nd 4397563595022593935676716755595406 sm3 (.nd 4397563595022593935672868450218070 sm3 (.nd 4397563595022593900276290881467462 sm1 (.nd 4397563595022593900276290866787342 sm3 .lf .lf) .lf) (.nd 4397563595022593935672868714459222 sm3 .lf .lf)) (.nd 4397563595022593935711351503991878 sm3 (.nd 4397563595022593935711351503991430 sm3 (.nd 4397563595022593935703654893236758 sm3 .lf .lf) .lf) (.nd 4397563595022593935738289641632782 sm3 .lf .lf)))))
def lo_50 : BT := .nd 4393125430064430331985956928107590 sm37 lo_51 lo_52
def lo_54 : BT := (.nd 4397565896816837973092753487573078 sm3 (.nd 4397565727567739731514771245511750 sm1 (.nd 4397565727566577586638127529079822 sm3 (.nd 4397563595022593935742137947009670 sm3 (.nd 4397563595022593935742137932329998 sm3 (.nd 4397563595022593935742137682768966 sm3 .lf .lf) .lf) (.nd 4397563595022593935742137947010118 sm1 .lf .lf)) (.nd 4397565727567739696048924179969094 sm4 (.nd 4397565727567739696048924165288974 sm9 (.nd 4397565727566577586638127543759942 sm1 .lf .lf) .lf) (.nd 4397565727567739731514771230831630 sm3 .lf .lf))) (.nd 4397565896802698543829524334130190 sm7 (.nd 4397565862966785894280983800591374 sm3 (.nd 4397565744491603625093484577698886 sm1 (.nd 4397565744491603625093484563018766 sm3 .lf .lf) .lf) (.nd 4397565862966785894280983815271494 sm1 .lf .lf)) (.nd 4397565896816837971191697883149382 sm1 (.nd 4397565896816837971191697868469262 sm3 (.nd 4397565896802698543829524348810310 sm4 .lf .lf) .lf) (.nd 4397565896816837973092753223331926 sm3 .lf .lf)))) (.nd 4397565896816837973162022720123974 sm1 (.nd 4397565896816837973158174414746638 sm3 (.nd 4397565896816837973131236277105286 sm3 (.nd 4397565896816837973123539666350614 sm3 (.nd 4397565896816837973096601528709262 sm3 .lf .lf) .lf) (.nd 4397565896816837973131236277105734 sm3 .lf .lf)) (.nd 4397565896816837973162022705443854 sm3 (.nd 4397565896816837973162022455882822 sm3 (.nd 4397565896816837973158174429426758 sm3 .lf .lf) .lf) (.nd 4397565896816837973162022720123526 sm3 .lf .lf))) (.nd 4397566032202906849502055768667150 sm3 (.nd 4397566015292084804229745694094350 sm3 (.nd 4397566015292020240379197120721990 sm1 (.nd 4397566015292020240379197106041870 sm3 .lf .lf) .lf) (.nd 4397566015292084804229745708774470 sm1 .lf .lf)) (.nd 4397566032203487921940377634223174 sm1 (.nd 4397566032203487921940377619543054 sm3 (.nd 4397566032202906849502055783347270 sm1 .lf .lf) .lf) (.nd 4397566032211170990847077647791118 sm3 .lf .lf)))))
def lo_55 : BT := (.nd 4397566032215884133957910452909126 sm1 (.nd 4397566032212914208123560161325590 sm3 (.nd 4397566032212914192399444504622094 sm3 (.nd 4397566032212849644311494612366350 sm8 (.nd 4397566032212849628548895931249734 sm1 (.nd 4397566032212849628548895916569614 sm3 .lf .lf) .lf) (.nd 4397566032212849644311494627046470 sm4 .lf .lf)) (.nd 4397566032212914208092773982548054 sm3 (.nd 4397566032212914208092773718306902 sm3 (.nd 4397566032212914192399444519302214 sm1 .lf .lf) .lf) (.nd 4397566032212914208096622023684238 sm3 .lf .lf))) (.nd 4397566032212914208162042950857798 sm3 (.nd 4397566032212914208158194909721614 sm3 (.nd 4397566032212914208131256772080710 sm3 (.nd 4397566032212914208131256772080262 sm3 .lf .lf) .lf) (.nd 4397566032212914208158194924401734 sm3 .lf .lf)) (.nd 4397566032212914208162043215098950 sm1 (.nd 4397566032212914208162043215098502 sm3 (.nd 4397566032212914208162043200418830 sm3 .lf .lf) .lf) (.nd 4397566032215884133957910438229006 sm3 .lf .lf)))) (.nd 4397566032216818287737302060241054 sm5 (.nd 4397566032216817279769915176649374 sm3 (.nd 4397566032216817278957922742043294 sm3 (.nd 4397566032216817278927137253232854 sm5 (.nd 4397566032216817278927136299025054 sm1 .lf .lf) .lf) (.nd 4397566032216817279550559391983118 sm5 .lf .lf)) (.nd 4397566032216817279800701619668062 sm6 (.nd 4397566032216817279800701619667614 sm1 (.nd 4397566032216817279769915176649822 sm25 .lf .lf) .lf) (.nd 4397566032216818287737301135393494 sm1 .lf .lf))) (.nd 4397566032216825349408454989972574 sm1 (.nd 4397566032216825349377668546954334 sm3 (.nd 4397566032216818288603168920440990 sm82 (.nd 4397566032216818288360725153199118 sm67 .lf .lf) .lf) (.nd 4397566032216825349377671761888350 sm8 .lf .lf)) (.nd 4397566032216825350220444209644638 sm8 (.nd 4397566032216825349720169633947854 sm70 (.nd 4397566032216825349408458204906590 sm1 .lf .lf) .lf) (.nd 4397566032216825350220446235498006 sm72 .lf .lf)))))
def lo_53 : BT := .nd 4397566032211170990847077662471238 sm1 lo_54 lo_55
def lo_49 : BT := .nd 4397563595022593935738289656312902 sm3 lo_50 lo_53
def lo_58 : BT := (.nd 4397566032216882851657119895524550 sm3 (.nd 4397566032216835437510103353656974 sm1 (.nd 4397566032216827367298165011514574 sm3 (.nd 4397566032216825350251233867596446 sm6 (.nd 4397566032216825350251230652662878 sm1 (.nd 4397566032216825350220447424578654 sm3 .lf .lf) .lf) (.nd 4397566032216827367028784662709454 sm1 (.nd 4397566032216825350251233867596894 sm1 .lf .lf) .lf)) (.nd 4397566032216834428699940264216150 sm3 (.nd 4397566032216834428699938517288534 sm1 (.nd 4397566032216827367863863744005326 sm1 .lf .lf) .lf) (.nd 4397566032216834428699941600101974 sm1 .lf .lf))) (.nd 4397566032216881842777685826605214 sm1 (.nd 4397566032216835437994988935721046 sm74 (.nd 4397566032216835437994987981513246 sm5 (.nd 4397566032216835437760245052875294 sm79 .lf .lf) .lf) (.nd 4397566032216881842777684901757654 sm5 .lf .lf)) (.nd 4397566032216882851587849708765854 sm5 (.nd 4397566032216881843401107994715718 sm60 (.nd 4397566032216881843158668983796438 sm77 .lf .lf) .lf) (.nd 4397566032216882851587850662973654 sm1 .lf .lf)))) (.nd 4397566032216901010101548485054678 sm3 (.nd 4397566032216882852211274020172870 sm4 (.nd 4397566032216882852142004787621974 sm8 (.nd 4397566032216882852142004523380822 sm3 (.nd 4397566032216882851961136284569814 sm5 .lf .lf) .lf) (.nd 4397566032216882852211273755931718 sm1 .lf .lf)) (.nd 4397566032216897984306021940991006 sm1 (.nd 4397566032216897983740323208500254 sm1 (.nd 4397566032216897983470942859695134 sm3 .lf .lf) .lf) (.nd 4397566032216901009920679717777494 sm75 .lf .lf))) (.nd 4397566032216901010655702081220694 sm8 (.nd 4397566032216901010170817717613638 sm1 (.nd 4397566032216901010170817717605574 sm1 (.nd 4397566032216901010101548485062742 sm25 .lf .lf) .lf) (.nd 4397566032216901010655701391254046 sm78 .lf .lf)) (.nd 4397566032216901010724971313771590 sm4 (.nd 4397566032216901010655702345461846 sm3 (.nd 4397566032216901010655702345453782 sm25 .lf .lf) .lf) (.nd 4397566032216901010724971578004678 sm1 .lf .lf)))))
def lo_59 : BT := (.nd 4397566032216965574021367245185734 sm1 (.nd 4397566032216954477109555381018718 sm1 (.nd 4397566032216909080652136408553094 sm1 (.nd 4397566032216907063220373699302934 sm5 (.nd 4397566032216907063031806735816214 sm1 (.nd 4397566032216907062720095908672134 sm62 .lf .lf) .lf) (.nd 4397566032216907063220374888383582 sm80 .lf .lf)) (.nd 4397566032216954477109552298205278 sm3 (.nd 4397566032216909080652136408560710 sm1 (.nd 4397566032216909080652136408556230 sm3 .lf .lf) .lf) (.nd 4397566032216954477109554045132894 sm1 .lf .lf))) (.nd 4397566032216962547105988108224142 sm5 (.nd 4397566032216956494729883717869774 sm1 (.nd 4397566032216956494541316754383054 sm5 (.nd 4397566032216956494541315565302406 sm63 .lf .lf) .lf) (.nd 4397566032216956495041594545013854 sm81 .lf .lf)) (.nd 4397566032216962547841010735908494 sm68 (.nd 4397566032216962547590872736080414 sm1 (.nd 4397566032216962547105989062431942 sm65 .lf .lf) .lf) (.nd 4397566032216965574021367245182598 sm3 .lf .lf)))) (.nd 4397566032216981699221406856131598 sm8 (.nd 4397566032216980706173839805392454 sm3 (.nd 4397566032216980705800554169116174 sm5 (.nd 4397566032216980705550416697754270 sm5 (.nd 4397566032216965574021367245190214 sm1 .lf .lf) .lf) (.nd 4397566032216980706173839790712334 sm1 .lf .lf)) (.nd 4397566032216980706177689020937230 sm8 (.nd 4397566032216980706173840744920134 sm1 (.nd 4397566032216980706173840730240014 sm3 .lf .lf) .lf) (.nd 4397566032216980706177689035617350 sm4 .lf .lf))) (.nd 4397566032216981714980157275911238 sm4 (.nd 4397566032216981714603021469889550 sm66 (.nd 4397566032216981714360582458970270 sm83 (.nd 4397566032216981699221406870811718 sm4 .lf .lf) .lf) (.nd 4397566032216981714980157261231118 sm8 .lf .lf)) (.nd 4397566032216981714984004627080774 sm1 (.nd 4397566032216981714984004612404238 sm16 (.nd 4397566032216981714984004612400654 sm3 .lf .lf) .lf) (.nd 4397566032216981714984004627084358 sm1 .lf .lf)))))
def lo_57 : BT := .nd 4397566032216901010724971578012742 sm1 lo_58 lo_59
def lo_61 : BT := (.nd 4397566032217038207541244218187982 sm71 (.nd 4397566032217028120320856332579910 sm1 (.nd 4397566032217028119766701517964942 sm69 (.nd 4397566032216981714984005566608454 sm1 (.nd 4397566032216981714984005566604870 sm1 (.nd 4397566032216981714984005551928334 sm3 .lf .lf) .lf) (.nd 4397566032217028119697433239621846 sm3 .lf .lf)) (.nd 4397566032217028120251587100029014 sm1 (.nd 4397566032217028120001445400810694 sm64 (.nd 4397566032217028119766702472172742 sm3 .lf .lf) .lf) (.nd 4397566032217028120251587364270166 sm1 .lf .lf))) (.nd 4397566032217036190705967653335182 sm3 (.nd 4397566032217029129088690074038806 sm3 (.nd 4397566032217029129061751936397454 sm1 (.nd 4397566032217028120320856596821062 sm1 .lf .lf) .lf) (.nd 4397566032217029129127173127812166 sm1 .lf .lf)) (.nd 4397566032217038207510456586089094 sm3 (.nd 4397566032217036190771388844749894 sm1 (.nd 4397566032217036190732905790976534 sm1 .lf .lf) .lf) (.nd 4397566032217038207541243029107334 sm3 .lf .lf)))) (.nd 4397566032217045270024389318292494 sm1 (.nd 4397566032217038208384021906732102 sm1 (.nd 4397566032217038208353235463713862 sm1 (.nd 4397566032217038208353235463713414 sm1 (.nd 4397566032217038208041520819738134 sm73 .lf .lf) .lf) (.nd 4397566032217038208384021906731654 sm1 .lf .lf)) (.nd 4397566032217045270024388378764814 sm3 (.nd 4397566032217045269400965300486870 sm76 (.nd 4397566032217045269158521533244998 sm61 .lf .lf) .lf) (.nd 4397566032217045270024388393444934 sm3 .lf .lf))) (.nd 4397566032217046243368707089118278 sm1 (.nd 4397566032217045270028237623669830 sm1 (.nd 4397566032217045270028237608989710 sm1 (.nd 4397566032217045270024389332972614 sm1 .lf .lf) .lf) (.nd 4397566032217046243368707074438158 sm3 .lf .lf)) (.nd 4397566032217046259131305770234894 sm3 (.nd 4397566032217046245339031926092870 sm1 (.nd 4397566032217046245339031911412750 sm3 .lf .lf) .lf) (.nd 4397566032217046259131305784915014 sm1 .lf .lf)))))
def lo_62 : BT := (.nd 4397566032217046278803767711642246 sm1 (.nd 4397566032217046278211131061710934 sm6 (.nd 4397566032217046277960992048952390 sm4 (.nd 4397566032217046276864229317686342 sm1 (.nd 4397566032217046276864229303006222 sm3 (.nd 4397566032217046263071955458864198 sm1 .lf .lf) .lf) (.nd 4397566032217046277960988834018374 sm1 .lf .lf)) (.nd 4397566032217046277999475073365062 sm1 (.nd 4397566032217046277991778491970630 sm1 (.nd 4397566032217046277991775277036614 sm1 .lf .lf) .lf) (.nd 4397566032217046278211131061702870 sm1 .lf .lf))) (.nd 4397566032217046278765284922101974 sm6 (.nd 4397566032217046278280400294261830 sm1 (.nd 4397566032217046278280400294253766 sm1 (.nd 4397566032217046278268855422170182 sm1 .lf .lf) .lf) (.nd 4397566032217046278765284657868886 sm1 .lf .lf)) (.nd 4397566032217046278796071100887574 sm1 (.nd 4397566032217046278769132963246222 sm1 (.nd 4397566032217046278765284922110038 sm1 .lf .lf) .lf) (.nd 4397566032217046278803764496708678 sm4 .lf .lf)))) (.nd 4397566032217046278834553215136838 sm1 (.nd 4397566032217046278834551071847494 sm1 (.nd 4397566032217046278830705863963718 sm1 (.nd 4397566032217046278830705849283598 sm1 (.nd 4397566032217046278803767711642694 sm1 .lf .lf) .lf) (.nd 4397566032217046278834550939726918 sm1 .lf .lf)) (.nd 4397566032217046278834553200456718 sm5 (.nd 4397566032217046278834553200453134 sm1 (.nd 4397566032217046278834552818775110 sm1 .lf .lf) .lf) (.nd 4397566032217046278834553215133254 sm1 .lf .lf))) (.nd 4397566032217046278834554154653318 sm1 (.nd 4397566032217046278834554139980814 sm1 (.nd 4397566032217046278834554139977230 sm5 (.nd 4397566032217046278834553890419782 sm1 .lf .lf) .lf) (.nd 4397566032217046278834554154652870 sm1 .lf .lf)) (.nd 4397566032217046278834554154660486 sm1 (.nd 4397566032217046278834554154657350 sm1 (.nd 4397566032217046278834554154656454 sm1 .lf .lf) .lf) (.nd 4397566032217046278834554154660934 sm0 .lf .lf)))))
def lo_60 : BT := .nd 4397566032217046263071955444184078 sm3 lo_61 lo_62
def lo_56 : BT := .nd 4397566032216981714984005551924750 sm16 lo_57 lo_60
def lo_48 : BT := .nd 4397566032216825350220447424578206 sm25 lo_49 lo_56
def lo_32 : BT := .nd 4353198091958797865228599188403214 sm1 lo_33 lo_48
def lo_0 : BT := .nd 3758669825039218303861624992576582 sm54 lo_1 lo_32
def lo : BT := lo_0
def S5 : Nat → Option Ev.Spec := upS S4 53 (mapS lo)
def ri_5 : BT := (.nd 2297646495040604 sm6 (.nd 1344832579 sm1 (.nd 1109463179 sm0 (.nd 36930 sm0 (.nd 33290 sm0 (.nd 65 sm0 .lf .lf) .lf) (.nd 1095270483 sm1 (.nd 1094754387 sm0 .lf .lf) .lf)) (.nd 1241842755 sm1 (.nd 1241842307 sm0 (.nd 1212424723 sm0 .lf .lf) .lf) (.nd 1344803851 sm0 .lf .lf))) (.nd 2297440689029788 sm0 (.nd 1359512195 sm1 (.nd 1359483915 sm1 (.nd 1358996547 sm1 .lf .lf) .lf) (.nd 1359512643 sm0 .lf .lf)) (.nd 2297592891942412 sm2 (.nd 2297448207057564 sm1 (.nd 2297440703942868 sm2 .lf .lf) .lf) (.nd 2297646495040156 sm1 .lf .lf)))) (.nd 2328234582869084 sm1 (.nd 2301442136847372 sm18 (.nd 2301289919480532 sm0 (.nd 2297654013068380 sm6 (.nd 2297654013067932 sm1 .lf .lf) .lf) (.nd 2301289933934748 sm2 .lf .lf)) (.nd 2328227064841308 sm4 (.nd 2328227014607964 sm1 (.nd 2301501349564572 sm34 .lf .lf) .lf) (.nd 2328234532635740 sm0 .lf .lf))) (.nd 2328432820618332 sm1 (.nd 2328432802043412 sm23 (.nd 2328432770384988 sm4 (.nd 2328310682493132 sm21 .lf .lf) .lf) (.nd 2328432820617884 sm6 .lf .lf)) (.nd 2328440338646108 sm1 (.nd 2328440338645660 sm6 (.nd 2328440288412764 sm1 .lf .lf) .lf) (.nd 2335932993537228 sm0 .lf .lf)))))
def ri_6 : BT := (.nd 2547792875369540 sm4 (.nd 2543791437877404 sm0 (.nd 2366726837143180 sm0 (.nd 2362877633988180 sm1 (.nd 2362877606692436 sm0 (.nd 2336136870266060 sm1 .lf .lf) .lf) (.nd 2362877654861396 sm1 .lf .lf)) (.nd 2366845232099412 sm26 (.nd 2366845217186332 sm2 (.nd 2366787950027292 sm31 .lf .lf) .lf) (.nd 2543791423423188 sm2 .lf .lf))) (.nd 2547657579762884 sm1 (.nd 2547640653415068 sm2 (.nd 2543943626335812 sm10 (.nd 2543884487918292 sm29 .lf .lf) .lf) (.nd 2547640668328148 sm0 .lf .lf)) (.nd 2547775963934804 sm4 (.nd 2547775959806036 sm1 (.nd 2547731824414932 sm2 .lf .lf) .lf) (.nd 2547792871240772 sm1 .lf .lf)))) (.nd 2617045192355924 sm4 (.nd 2616909905006804 sm1 (.nd 2605517235131420 sm1 (.nd 2605379125089308 sm0 (.nd 2605313358402588 sm1 .lf .lf) .lf) (.nd 2616865761374292 sm27 .lf .lf)) (.nd 2616926816449604 sm1 (.nd 2616926816441540 sm0 (.nd 2616909905014868 sm6 .lf .lf) .lf) (.nd 2617045181571612 sm30 .lf .lf))) (.nd 2617062107919428 sm1 (.nd 2617062103790660 sm4 (.nd 2617045196484692 sm1 (.nd 2617045196476628 sm6 .lf .lf) .lf) (.nd 2617062107911364 sm1 .lf .lf)) (.nd 2640068247066132 sm2 (.nd 2640022199146004 sm0 (.nd 2639946108940932 sm12 .lf .lf) .lf) (.nd 2640068265641052 sm32 .lf .lf)))))
def ri_4 : BT := .nd 2335998760223948 sm1 ri_5 ri_6
def ri_8 : BT := (.nd 2921016036733964 sm1 (.nd 2851611508806852 sm15 (.nd 2828588424737412 sm13 (.nd 2820936003035228 sm1 (.nd 2647720660055108 sm1 (.nd 2647720660050628 sm1 .lf .lf) .lf) (.nd 2820936051204188 sm1 (.nd 2820936030330972 sm0 .lf .lf) .lf)) (.nd 2828710581437532 sm33 (.nd 2828634491232460 sm0 (.nd 2828588443312332 sm2 .lf .lf) .lf) (.nd 2851611493893772 sm2 .lf .lf))) (.nd 2863277565293636 sm1 (.nd 2863277565286020 sm1 (.nd 2851790929004172 sm19 (.nd 2851729873936924 sm0 .lf .lf) .lf) (.nd 2863277565289156 sm0 .lf .lf)) (.nd 2921016022050316 sm0 (.nd 2920924865963532 sm2 (.nd 2920863819137692 sm2 .lf .lf) .lf) (.nd 2921016022279748 sm1 .lf .lf)))) (.nd 2924865252501060 sm0 (.nd 2924772202460172 sm17 (.nd 2921016976487492 sm4 (.nd 2921016976258060 sm4 (.nd 2921016036963396 sm1 .lf .lf) .lf) (.nd 2924713064042652 sm35 .lf .lf)) (.nd 2924865252271628 sm1 (.nd 2924864327660612 sm4 (.nd 2924864327431180 sm4 .lf .lf) .lf) (.nd 2924865252275212 sm5 .lf .lf))) (.nd 2924865267184708 sm1 (.nd 2924865266955276 sm1 (.nd 2924865266951692 sm5 (.nd 2924865252504644 sm1 .lf .lf) .lf) (.nd 2924865267181124 sm1 .lf .lf)) (.nd 3101811473192132 sm1 (.nd 3101811458279052 sm20 (.nd 3101794561757396 sm1 .lf .lf) .lf) (.nd 3101868740351172 sm14 .lf .lf)))))
def ri_9 : BT := (.nd 3167366756214284 sm1 (.nd 3140216351732356 sm1 (.nd 3105785661960724 sm1 (.nd 3101946768798788 sm1 (.nd 3101946764670020 sm1 (.nd 3101929857364052 sm1 .lf .lf) .lf) (.nd 3105779083686028 sm0 .lf .lf)) (.nd 3132723696841236 sm0 (.nd 3132717118566540 sm1 (.nd 3105795059496004 sm1 .lf .lf) .lf) (.nd 3132733094376516 sm1 .lf .lf))) (.nd 3140422157743172 sm1 (.nd 3140346007885332 sm24 (.nd 3140223888335052 sm22 (.nd 3140223869760132 sm1 .lf .lf) .lf) (.nd 3140422157742724 sm0 .lf .lf)) (.nd 3167155340813892 sm11 (.nd 3140429675770948 sm1 (.nd 3140429675770500 sm1 .lf .lf) .lf) (.nd 3167214553531092 sm28 .lf .lf)))) (.nd 3171012124619844 sm1 (.nd 3167367710651460 sm1 (.nd 3167366771127364 sm1 (.nd 3167366770897932 sm0 (.nd 3167366756443716 sm1 .lf .lf) .lf) (.nd 3167367710422028 sm1 .lf .lf)) (.nd 3171010195338308 sm1 (.nd 3171002727543876 sm4 (.nd 3171002677310532 sm1 .lf .lf) .lf) (.nd 3171010245571652 sm1 .lf .lf))) (.nd 3171080709878852 sm1 (.nd 3171077891306564 sm1 (.nd 3171063798444116 sm6 (.nd 3171063798436052 sm1 .lf .lf) .lf) (.nd 3171080709870788 sm1 .lf .lf)) (.nd 3171199089913940 sm1 (.nd 3171199089905876 sm6 (.nd 3171199085785172 sm1 .lf .lf) .lf) (.nd 3171200025538700 sm1 .lf .lf)))))
def ri_7 : BT := .nd 3101929853235284 sm0 ri_8 ri_9
def ri_3 : BT := .nd 2647720660047492 sm0 ri_4 ri_7
def ri_12 : BT := (.nd 3171216001348676 sm0 (.nd 3171215986665028 sm1 (.nd 3171215951115332 sm1 (.nd 3171208483320900 sm1 (.nd 3171208483320452 sm1 (.nd 3171208433087556 sm4 .lf .lf) .lf) (.nd 3171215061824580 sm1 (.nd 3171215061595148 sm1 .lf .lf) .lf)) (.nd 3171215986435596 sm1 (.nd 3171215980475460 sm1 (.nd 3171215953179716 sm1 .lf .lf) .lf) (.nd 3171215986439180 sm5 .lf .lf))) (.nd 3171216001340612 sm1 (.nd 3171216001115660 sm5 (.nd 3171215997219908 sm1 (.nd 3171215986668612 sm1 .lf .lf) .lf) (.nd 3171216001119244 sm1 .lf .lf)) (.nd 3171216001345092 sm1 (.nd 3171216001344196 sm1 (.nd 3171216001341060 sm1 .lf .lf) .lf) (.nd 3171216001348228 sm1 .lf .lf)))) (.nd 352039183944240597185605 sm4 (.nd 351526111431252106163269 sm3 (.nd 351522785421428625912901 sm3 (.nd 351522659348059084960837 sm4 (.nd 351522659316790768841797 sm1 .lf .lf) .lf) (.nd 351525212857781866083397 sm4 .lf .lf)) (.nd 351526237535890080674885 sm4 (.nd 351526237535889963234373 sm1 (.nd 351526111431252223603781 sm9 .lf .lf) .lf) (.nd 352039183913934383100997 sm1 .lf .lf))) (.nd 355654856093939682915397 sm1 (.nd 355654729989301825844293 sm3 (.nd 352042730576569748829253 sm58 (.nd 352041737485231694427205 sm43 .lf .lf) .lf) (.nd 355654730094648783680581 sm7 .lf .lf)) (.nd 355658181998416205329477 sm7 (.nd 355656132965934617998405 sm46 (.nd 355654856199286640751685 sm1 .lf .lf) .lf) (.nd 355658182064800408941637 sm48 .lf .lf)))))
def ri_13 : BT := (.nd 385096758131125695689797 sm1 (.nd 360303577569249842050117 sm1 (.nd 356687905288226911433797 sm1 (.nd 355658308208400902796357 sm4 (.nd 355658308103054062400581 sm1 (.nd 355658182103763163165765 sm3 .lf .lf) .lf) (.nd 355658308208401020236869 sm1 .lf .lf)) (.nd 360303577468232211248197 sm1 (.nd 356691325772143899325509 sm1 (.nd 356689008670135617205317 sm3 .lf .lf) .lf) (.nd 360303577525475535369285 sm3 .lf .lf))) (.nd 384580233503675867345989 sm4 (.nd 360822088152813345584197 sm4 (.nd 360821126726170842379333 sm55 (.nd 360820102065375825507397 sm1 .lf .lf) .lf) (.nd 360822088184081661703237 sm50 .lf .lf)) (.nd 384582787044666964587589 sm36 (.nd 384581794109179927082053 sm53 (.nd 384580233533982081430597 sm1 .lf .lf) .lf) (.nd 385096758099857379570757 sm4 .lf .lf)))) (.nd 394393176340140591821893 sm51 (.nd 385099311672116792931397 sm1 (.nd 385099027945340004348997 sm3 (.nd 385098287149859712676933 sm4 (.nd 385097041857902484272197 sm3 .lf .lf) .lf) (.nd 385099027953998658417733 sm7 .lf .lf)) (.nd 392844627088279909577797 sm1 (.nd 392843523706371203806277 sm3 (.nd 385099311680775447000133 sm4 .lf .lf) .lf) (.nd 392846944190288191697989 sm1 .lf .lf))) (.nd 394394200879712866284613 sm1 (.nd 394394200879710752355397 sm1 (.nd 394393917152936077702213 sm9 (.nd 394393917152933963772997 sm3 .lf .lf) .lf) (.nd 394394200879712864449549 sm1 .lf .lf)) (.nd 394396186967146158502981 sm9 (.nd 394396186958489618363461 sm7 (.nd 394396186935879956313157 sm54 .lf .lf) .lf) (.nd 394396186967148272432197 sm3 .lf .lf)))))
def ri_11 : BT := .nd 355658182103763045725253 sm9 ri_12 ri_13
def ri_15 : BT := (.nd 425900215249302018208837 sm41 (.nd 398526397656861661082637 sm1 (.nd 397493348462572437910597 sm1 (.nd 394396470693925061014597 sm1 (.nd 394396470693925059179533 sm3 (.nd 394396470693922947085381 sm1 .lf .lf) .lf) (.nd 397492071715650767303749 sm38 .lf .lf)) (.nd 398526397656859666428997 sm1 (.nd 397494120892442066695237 sm56 (.nd 397494120853479312471109 sm4 .lf .lf) .lf) (.nd 398526397656860488512581 sm3 .lf .lf))) (.nd 422802281292739907826757 sm39 (.nd 421770004528322308092997 sm1 (.nd 421770004471078983971909 sm3 (.nd 398526397656861662917701 sm1 .lf .lf) .lf) (.nd 421770004572096614773829 sm1 .lf .lf)) (.nd 422804330469531207218245 sm57 (.nd 422803053722609536611397 sm1 (.nd 422802281331702662050885 sm4 .lf .lf) .lf) (.nd 425900215218033702089797 sm4 .lf .lf)))) (.nd 435199644054537329849413 sm3 (.nd 427451775096903237514253 sm1 (.nd 427451775096901242860613 sm3 (.nd 425903225845041382700101 sm44 (.nd 425902201305471222166597 sm1 .lf .lf) .lf) (.nd 427451775096902064944197 sm1 .lf .lf)) (.nd 435198115035322261845061 sm4 (.nd 435197090513065181590597 sm4 (.nd 427451775096903239349317 sm1 .lf .lf) .lf) (.nd 435199644054056278832197 sm1 .lf .lf))) (.nd 435713615140515009934405 sm59 (.nd 435199659847442239730757 sm7 (.nd 435199644085324594951237 sm1 (.nd 435199644084843543934021 sm3 .lf .lf) .lf) (.nd 435199659847923290747973 sm4 .lf .lf)) (.nd 435716152919388462396485 sm4 (.nd 435716152918907411379269 sm7 (.nd 435714608076002047439941 sm42 .lf .lf) .lf) (.nd 435716168650718842074181 sm3 .lf .lf)))))
def ri_16 : BT := (.nd 459474314032368628937797 sm3 (.nd 435716168681506107176005 sm3 (.nd 435716168680904826433621 sm3 (.nd 435716168651200832615493 sm1 (.nd 435716168651200830780429 sm1 (.nd 435716168651199893091397 sm1 .lf .lf) .lf) (.nd 435716168680904793403477 sm1 .lf .lf)) (.nd 435716168681505167651909 sm8 (.nd 435716168681385844421141 sm1 (.nd 435716168680964924780685 sm1 .lf .lf) .lf) (.nd 435716168681506107175557 sm1 .lf .lf))) (.nd 435716168681987156358157 sm3 (.nd 435716168681986218669125 sm1 (.nd 435716168681927028651077 sm3 (.nd 435716168681927026816013 sm1 .lf .lf) .lf) (.nd 435716168681987125163077 sm3 .lf .lf)) (.nd 459474030305591840355397 sm3 (.nd 435716168681987158193221 sm1 (.nd 435716168681987158192773 sm3 .lf .lf) .lf) (.nd 459474314001100312818757 sm45 .lf .lf)))) (.nd 463608496896955063088197 sm1 (.nd 459476583855241591665733 sm1 (.nd 459476300128464803083333 sm1 (.nd 459476300119806149014597 sm1 (.nd 459475275459011132142661 sm40 .lf .lf) .lf) (.nd 459476583846582937596997 sm1 .lf .lf)) (.nd 459993092689305459110981 sm1 (.nd 459992935058507990971461 sm3 (.nd 459992824716949763273797 sm1 .lf .lf) .lf) (.nd 463608386555396835390533 sm3 .lf .lf))) (.nd 464640269219247356523589 sm49 (.nd 464638220081418811356229 sm3 (.nd 464638093976780954285125 sm3 (.nd 463608654527752531227717 sm1 .lf .lf) .lf) (.nd 464638220120381565580357 sm47 .lf .lf)) (.nd 464641546091242409047109 sm1 (.nd 464641546091242407212045 sm1 (.nd 464641546091242291606597 sm1 .lf .lf) .lf) (.nd 464641672195880148677701 sm1 .lf .lf)))))
def ri_14 : BT := .nd 435716168650719781598277 sm8 ri_15 ri_16
def ri_10 : BT := .nd 394396470685266406945861 sm4 ri_11 ri_14
def ri_2 : BT := .nd 3171206603813396 sm1 ri_3 ri_10
def ri_20 : BT := (.nd 468773295591003389821597 sm1 (.nd 468770164754638969123909 sm4 (.nd 468257218271247591420997 sm1 (.nd 468254664699950280094789 sm52 (.nd 468253671608612225692741 sm37 (.nd 464641672195880266118213 sm1 .lf .lf) .lf) (.nd 468257218240941377336389 sm3 (.nd 468257218240460326319173 sm3 .lf .lf) .lf)) (.nd 468257234034327338234949 sm1 (.nd 468257234033846287217733 sm1 (.nd 468257218271728642438213 sm1 .lf .lf) .lf) (.nd 468770164649292011287621 sm1 .lf .lf))) (.nd 468771189327402222367813 sm4 (.nd 468770322384474217788485 sm1 (.nd 468770290859276826195013 sm1 (.nd 468770290753929868358725 sm1 .lf .lf) .lf) (.nd 468771189327400108438597 sm1 .lf .lf)) (.nd 468771473054179009115149 sm3 (.nd 468771473054176897020997 sm1 (.nd 468771425766382923560005 sm1 .lf .lf) .lf) (.nd 468771473054179010950213 sm1 .lf .lf)))) (.nd 468773297571129459618829 sm67 (.nd 468773295604172161418333 sm25 (.nd 468773295600744375657997 sm5 (.nd 468773295591484440838813 sm3 (.nd 468773295591003509100757 sm5 .lf .lf) .lf) (.nd 468773295604172161417885 sm3 .lf .lf)) (.nd 468773297561388358173397 sm1 (.nd 468773295604653212435549 sm6 (.nd 468773295604653212435101 sm1 .lf .lf) .lf) (.nd 468773297561388473782429 sm5 .lf .lf))) (.nd 468773311354083538502749 sm1 (.nd 468773311353602487485533 sm8 (.nd 468773311353602085618781 sm3 (.nd 468773297574917802430621 sm82 .lf .lf) .lf) (.nd 468773311354083136635997 sm1 .lf .lf)) (.nd 468773311366770708583957 sm72 (.nd 468773311366770455348317 sm8 (.nd 468773311358954016743629 sm70 .lf .lf) .lf) (.nd 468773311366770857214621 sm25 .lf .lf)))))
def ri_21 : BT := (.nd 468773423667108664448197 sm3 (.nd 468773331057932820153997 sm1 (.nd 468773315299062141289677 sm3 (.nd 468773311367251908232285 sm1 (.nd 468773311367251908231837 sm6 (.nd 468773311367251506365533 sm1 .lf .lf) .lf) (.nd 468773315294853073339597 sm1 .lf .lf)) (.nd 468773329087548070168149 sm3 (.nd 468773329087547851802197 sm1 (.nd 468773315307901183984845 sm1 .lf .lf) .lf) (.nd 468773329087548237153877 sm1 .lf .lf))) (.nd 468773421695641364336797 sm1 (.nd 468773331065509261750357 sm74 (.nd 468773331065509142471197 sm5 (.nd 468773331061841590886941 sm79 .lf .lf) .lf) (.nd 468773421695641248727765 sm5 .lf .lf)) (.nd 468773423666026213409437 sm5 (.nd 468773421705382234564165 sm60 (.nd 468773421701594486276821 sm77 .lf .lf) .lf) (.nd 468773423666026332688597 sm1 .lf .lf)))) (.nd 468773459131873431261397 sm3 (.nd 468773423675767351555141 sm4 (.nd 468773423674685019795541 sm8 (.nd 468773423674684986765397 sm3 (.nd 468773423671859076272341 sm5 .lf .lf) .lf) (.nd 468773423675767318524997 sm1 .lf .lf)) (.nd 468773453230639900660765 sm1 (.nd 468773453221800857965597 sm1 (.nd 468773453217591790015517 sm3 .lf .lf) .lf) (.nd 468773459129047454724181 sm75 .lf .lf))) (.nd 468773459140532052308053 sm8 (.nd 468773459132955763029061 sm1 (.nd 468773459132955763020997 sm1 (.nd 468773459131873431269461 sm25 .lf .lf) .lf) (.nd 468773459140531966059037 sm78 .lf .lf)) (.nd 468773459141612303168581 sm4 (.nd 468773459140532085338197 sm3 (.nd 468773459140532085330133 sm25 .lf .lf) .lf) (.nd 468773459141614384067653 sm4 .lf .lf)))))
def ri_19 : BT := .nd 468773311366770857215069 sm3 ri_20 ri_21
def ri_23 : BT := (.nd 468773585237593737536197 sm1 (.nd 468773563563359252652125 sm1 (.nd 468773474896035509835397 sm1 (.nd 468773470955265573131797 sm1 (.nd 468773470950395170140805 sm62 (.nd 468773459141614417097797 sm1 .lf .lf) .lf) (.nd 468773470958212159243357 sm80 (.nd 468773470958212010612245 sm5 .lf .lf) .lf)) (.nd 468773563563358867300445 sm3 (.nd 468773474896035509843013 sm1 (.nd 468773474896035509838533 sm3 .lf .lf) .lf) (.nd 468773563563359085666397 sm1 .lf .lf))) (.nd 468773579318862510163597 sm5 (.nd 468773567504129022369997 sm1 (.nd 468773567501182584889549 sm5 (.nd 468773567501182436258437 sm63 .lf .lf) .lf) (.nd 468773567508999425360989 sm81 .lf .lf)) (.nd 468773579330347140777613 sm68 (.nd 468773579326438832480797 sm1 (.nd 468773579318862629442757 sm65 .lf .lf) .lf) (.nd 468773585237593737533061 sm3 .lf .lf)))) (.nd 468773616658406390772805 sm4 (.nd 468773614793368264648261 sm3 (.nd 468773614787535519229453 sm5 (.nd 468773614783627276976797 sm5 (.nd 468773585237593737540677 sm1 .lf .lf) .lf) (.nd 468773614793368262813197 sm1 .lf .lf)) (.nd 468773614793428509799437 sm8 (.nd 468773614793368382092357 sm1 (.nd 468773614793368380257293 sm3 .lf .lf) .lf) (.nd 468773614793428511634501 sm4 .lf .lf))) (.nd 468773616763753229329933 sm3 (.nd 468773616763693217231885 sm8 (.nd 468773616757800109224973 sm66 (.nd 468773616754012360937629 sm83 .lf .lf) .lf) (.nd 468773616763693219066949 sm4 .lf .lf)) (.nd 468773616763753231168581 sm1 (.nd 468773616763753231164997 sm1 (.nd 468773616763753229333517 sm16 .lf .lf) .lf) (.nd 468773616763753346770445 sm16 .lf .lf)))))
def ri_24 : BT := (.nd 468773727100440578758165 sm73 (.nd 468773707402544140137541 sm1 (.nd 468773707393885453030597 sm3 (.nd 468773707392803121270997 sm3 (.nd 468773616763753348609093 sm1 (.nd 468773616763753348605509 sm1 .lf .lf) .lf) (.nd 468773707393885333751437 sm69 .lf .lf)) (.nd 468773707401461808377941 sm1 (.nd 468773707401461775347797 sm1 (.nd 468773707397553004614853 sm64 .lf .lf) .lf) (.nd 468773707402544107107397 sm1 .lf .lf))) (.nd 468773723164541522162197 sm1 (.nd 468773709372868977112133 sm1 (.nd 468773709372267663340053 sm3 (.nd 468773709371846743699597 sm1 .lf .lf) .lf) (.nd 468773723164120602521741 sm3 .lf .lf)) (.nd 468773727092623738286725 sm3 (.nd 468773727092142687269509 sm3 (.nd 468773723165142835934277 sm1 .lf .lf) .lf) (.nd 468773727092623886917837 sm71 .lf .lf)))) (.nd 468773740898006239163461 sm1 (.nd 468773740884476793071173 sm61 (.nd 468773727105792509883013 sm1 (.nd 468773727105311458866245 sm1 (.nd 468773727105311458865797 sm1 .lf .lf) .lf) (.nd 468773727105792509883461 sm1 .lf .lf)) (.nd 468773740898006121719365 sm3 (.nd 468773740898006119884301 sm3 (.nd 468773740888265135882965 sm76 .lf .lf) .lf) (.nd 468773740898006237328397 sm1 .lf .lf))) (.nd 468773742824616898999365 sm1 (.nd 468773742763044247843909 sm1 (.nd 468773740898066368705605 sm1 (.nd 468773740898066366870541 sm1 .lf .lf) .lf) (.nd 468773742767373574878277 sm1 .lf .lf)) (.nd 468773742837603940578373 sm1 (.nd 468773742837123829085253 sm4 (.nd 468773742837122889561157 sm1 .lf .lf) .lf) (.nd 468773742837604878267405 sm3 .lf .lf)))))
def ri_22 : BT := .nd 468773616763753346774029 sm3 ri_23 ri_24
def ri_18 : BT := .nd 468773459141614417089733 sm1 ri_19 ri_22
def ri_27 : BT := (.nd 468773742868331076138053 sm1 (.nd 468773742867308840890453 sm1 (.nd 468773742858650219843797 sm1 (.nd 468773742855222434083909 sm1 (.nd 468773742854741784933445 sm4 (.nd 468773742854741383066693 sm1 .lf .lf) .lf) (.nd 468773742855343095034949 sm1 (.nd 468773742855222835950661 sm1 .lf .lf) .lf)) (.nd 468773742859732551603397 sm1 (.nd 468773742859552162985029 sm1 (.nd 468773742858650219851861 sm6 .lf .lf) .lf) (.nd 468773742859732551611461 sm1 .lf .lf))) (.nd 468773742867909215138885 sm4 (.nd 468773742867368972267661 sm1 (.nd 468773742867308873920597 sm1 (.nd 468773742867308873912533 sm6 .lf .lf) .lf) (.nd 468773742867789891908117 sm1 .lf .lf)) (.nd 468773742867910154662981 sm1 (.nd 468773742867910154662533 sm1 (.nd 468773742867909752796229 sm4 .lf .lf) .lf) (.nd 468773742868331074302989 sm1 .lf .lf)))) (.nd 468773742868391088236101 sm1 (.nd 468773742868390803813445 sm1 (.nd 468773742868390031275077 sm1 (.nd 468773742868389209191493 sm1 (.nd 468773742868389091750981 sm1 .lf .lf) .lf) (.nd 468773742868390266156101 sm1 .lf .lf)) (.nd 468773742868391086401037 sm1 (.nd 468773742868391038694469 sm1 (.nd 468773742868390820328517 sm1 .lf .lf) .lf) (.nd 468773742868391086404621 sm5 .lf .lf))) (.nd 468773742868391205672133 sm1 (.nd 468773742868391203841549 sm5 (.nd 468773742868391172650053 sm1 (.nd 468773742868391088239685 sm1 .lf .lf) .lf) (.nd 468773742868391203845133 sm1 .lf .lf)) (.nd 468773742868391205676613 sm1 (.nd 468773742868391205675717 sm1 (.nd 468773742868391205672581 sm1 .lf .lf) .lf) (.nd 468773742868391205679749 sm1 .lf .lf)))))
def ri_28 : BT := (.nd 3394850582384699653924533296313414 sm4 (.nd 3390417494935509657764924774298694 sm3 (.nd 3390413923755015595651908173706254 sm3 (.nd 3390413788359003940265034962580494 sm4 (.nd 3390413788354807289979376753849414 sm1 (.nd 3390413788354807289979376739169294 sm1 .lf .lf) .lf) (.nd 3390413788359003940265034977260614 sm4 .lf .lf)) (.nd 3390416530198566215857422936192070 sm4 (.nd 3390416530198566215857422921511950 sm4 (.nd 3390413923755015595651908188386374 sm3 .lf .lf) .lf) (.nd 3390417494935509657764924759618574 sm3 .lf .lf))) (.nd 3390417630335717965407781031130126 sm9 (.nd 3390417630335717963437456194155534 sm3 (.nd 3390417494935509659735249611273286 sm9 (.nd 3390417494935509659735249596593166 sm9 .lf .lf) .lf) (.nd 3390417630335717963437456208835654 sm1 .lf .lf)) (.nd 3394850582380632131339972249007174 sm1 (.nd 3394850582380632131339972234327054 sm1 (.nd 3390417630335717965407781045810246 sm4 .lf .lf) .lf) (.nd 3394850582384699653924533281633294 sm4 .lf .lf)))) (.nd 3425908140561406020864140715111494 sm1 (.nd 3425908005161197715191609265894414 sm3 (.nd 3394854390507423236827973965722638 sm58 (.nd 3394853324228458579802579478656070 sm43 (.nd 3394853324228458579802579463975950 sm43 .lf .lf) .lf) (.nd 3394854390507423236827973980402758 sm58 .lf .lf)) (.nd 3425908005175337144524107651888198 sm7 (.nd 3425908005175337144524107637208078 sm7 (.nd 3425908005161197715191609280574534 sm3 .lf .lf) .lf) (.nd 3425908140561406020864140700431374 sm1 .lf .lf))) (.nd 3425911711727760653644658915030030 sm7 (.nd 3425909511496908416369837921940494 sm46 (.nd 3425908140575545450196639086425158 sm1 (.nd 3425908140575545450196639071745038 sm3 .lf .lf) .lf) (.nd 3425909511496908416369837936620614 sm46 .lf .lf)) (.nd 3425911711736670450981799617508422 sm48 (.nd 3425911711736670450981799602828302 sm48 (.nd 3425911711727760653644658929710150 sm7 .lf .lf) .lf) (.nd 3425911711741900081006832449369102 sm9 .lf .lf)))))
def ri_26 : BT := .nd 468773742868391205680197 sm0 ri_27 ri_28
def ri_30 : BT := (.nd 3465839286807387950003676691969094 sm1 (.nd 3434781728613055703585331705427014 sm1 (.nd 3425911847142108386679363883906062 sm9 (.nd 3425911847127968959317190349566990 sm3 (.nd 3425911711741900082977157301023814 sm3 (.nd 3425911711741900082977157286343694 sm3 .lf .lf) .lf) (.nd 3425911847127968959317190364247110 sm1 .lf .lf)) (.nd 3425911847142108388649688735560774 sm1 (.nd 3425911847142108388649688720880654 sm3 (.nd 3425911847142108386679363898586182 sm4 .lf .lf) .lf) (.nd 3434781728613055703585331690746894 sm1 .lf .lf))) (.nd 3465839286793829593109500156851214 sm1 (.nd 3434785401329695692828764448109582 sm3 (.nd 3434782913360358925921922917479494 sm3 (.nd 3434782913360358925921922902799374 sm3 .lf .lf) .lf) (.nd 3434785401329695692828764462789702 sm1 .lf .lf)) (.nd 3465839286801512662016200199779398 sm3 (.nd 3465839286801512662016200185099278 sm3 (.nd 3465839286793829593109500171531334 sm1 .lf .lf) .lf) (.nd 3465839286807387950003676677288974 sm3 .lf .lf)))) (.nd 3674368606003529614472927396639814 sm4 (.nd 3470278213364800265708576016053262 sm4 (.nd 3470277180954481963228535652234254 sm55 (.nd 3470276080819654434470095666689094 sm1 (.nd 3470276080819654434470095652008974 sm1 .lf .lf) .lf) (.nd 3470277180954481963228535666914374 sm55 .lf .lf)) (.nd 3470278213368996915994234254144582 sm50 (.nd 3470278213368996915994234239464462 sm50 (.nd 3470278213364800265708576030733382 sm4 .lf .lf) .lf) (.nd 3674368606003529614472927381959694 sm4 .lf .lf))) (.nd 3674371347847288540350973564302350 sm36 (.nd 3674370281589242411307009796617230 sm53 (.nd 3674368606007597137057488443946054 sm1 (.nd 3674368606007597137057488429265934 sm1 .lf .lf) .lf) (.nd 3674370281589242411307009811297350 sm53 .lf .lf)) (.nd 3678805400029225328132425715692614 sm4 (.nd 3678805400029225328132425701012494 sm4 (.nd 3674371347847288540350973578982470 sm36 .lf .lf) .lf) (.nd 3678805400033421978418083924423694 sm1 .lf .lf)))))
def ri_31 : BT := (.nd 3758666592379711684488607040943174 sm51 (.nd 3678808141877180904296130121446470 sm1 (.nd 3678807837227874356976347197617166 sm3 (.nd 3678807041760947684697527568184334 sm4 (.nd 3678805704682728525737866848252998 sm3 (.nd 3678805704682728525737866833572878 sm3 .lf .lf) .lf) (.nd 3678807041760947684697527582864454 sm4 .lf .lf)) (.nd 3678807837229036501852990914049094 sm7 (.nd 3678807837229036501852990899368974 sm7 (.nd 3678807837227874356976347212297286 sm3 .lf .lf) .lf) (.nd 3678808141877180904296130106766350 sm3 .lf .lf))) (.nd 3745357310420794598827016351790094 sm1 (.nd 3745356125673491376490425139737614 sm3 (.nd 3678808141878343049172773823198278 sm4 (.nd 3678808141878343049172773808518158 sm7 .lf .lf) .lf) (.nd 3745356125673491376490425154417734 sm3 .lf .lf)) (.nd 3745359798390131365733857911780422 sm1 (.nd 3745359798390131365733857897100302 sm3 (.nd 3745357310420794598827016366470214 sm1 .lf .lf) .lf) (.nd 3758666592379711684488607026263054 sm51 .lf .lf)))) (.nd 3758667692498269158336166863712790 sm1 (.nd 3758667692498269122908802837263374 sm1 (.nd 3758667387848962611054866993656846 sm9 (.nd 3758667387848962575589019942794310 sm3 (.nd 3758667387848962575589019928114190 sm3 .lf .lf) .lf) (.nd 3758667387848962611054867008336966 sm9 .lf .lf)) (.nd 3758667692498269158305380684935254 sm3 (.nd 3758667692498269158305380420694102 sm1 (.nd 3758667692498269122908802851943494 sm1 .lf .lf) .lf) (.nd 3758667692498269158309228726071438 sm1 .lf .lf))) (.nd 3758667692498269158374649653244998 sm3 (.nd 3758667692498269158370801612108814 sm1 (.nd 3758667692498269158343863474467910 sm3 (.nd 3758667692498269158343863474467462 sm1 .lf .lf) .lf) (.nd 3758667692498269158370801626788934 sm3 .lf .lf)) (.nd 3758667692498269158374649917486150 sm1 (.nd 3758667692498269158374649917485702 sm3 (.nd 3758667692498269158374649902806030 sm3 .lf .lf) .lf) (.nd 3758669825039218303861624977896462 sm54 .lf .lf)))))
def ri_29 : BT := .nd 3678805400033421978418083939103814 sm1 ri_30 ri_31
def ri_25 : BT := .nd 3425911711741900081006832464049222 sm9 ri_26 ri_29
def ri_17 : BT := .nd 468773742837604880102469 sm1 ri_18 ri_25
def ri_1 : BT := .nd 464641672195880264283149 sm3 ri_2 ri_17
def ri_36 : BT := (.nd 3758670129692721501467066125136518 sm3 (.nd 3758670129692721501397796628344918 sm3 (.nd 3758669825043414954147283215987782 sm3 (.nd 3758669825043414918681436135765006 sm9 (.nd 3758669825042252809270639514235974 sm7 (.nd 3758669825042252809270639499555854 sm7 .lf .lf) .lf) (.nd 3758669825043414954147283201307662 sm3 (.nd 3758669825043414918681436150445126 sm9 .lf .lf) .lf)) (.nd 3758670129692721466001219044914190 sm3 (.nd 3758670129691559356590422423385158 sm4 (.nd 3758670129691559356590422408705038 sm7 .lf .lf) .lf) (.nd 3758670129692721466001219059594310 sm1 .lf .lf))) (.nd 3758670129692721501436279682118726 sm3 (.nd 3758670129692721501428583071363606 sm3 (.nd 3758670129692721501401644933722254 sm3 (.nd 3758670129692721501397796892586070 sm3 .lf .lf) .lf) (.nd 3758670129692721501436279682118278 sm3 .lf .lf)) (.nd 3758670129692721501467065860895814 sm3 (.nd 3758670129692721501463217834439750 sm3 (.nd 3758670129692721501463217819759630 sm3 .lf .lf) .lf) (.nd 3758670129692721501467066110456846 sm3 .lf .lf)))) (.nd 3794162044704867853793566798525454 sm1 (.nd 3785288456653218171072375822890054 sm1 (.nd 3785287085734502376709311495025734 sm38 (.nd 3785287085734502376709311480345614 sm38 (.nd 3758670129692721501467066125136966 sm1 .lf .lf) .lf) (.nd 3785288456653218171072375808209934 sm1 .lf .lf)) (.nd 3785289285984723675311988528264206 sm56 (.nd 3785289285979494043316630859428934 sm4 (.nd 3785289285979494043316630844748814 sm4 .lf .lf) .lf) (.nd 3785289285984723675311988542944326 sm56 .lf .lf))) (.nd 3794162044704867887219819809222742 sm3 (.nd 3794162044704867867585840672027718 sm3 (.nd 3794162044704867867585840657347598 sm3 (.nd 3794162044704867853793566813205574 sm1 .lf .lf) .lf) (.nd 3794162044704867887219819544981590 sm1 .lf .lf)) (.nd 3794162044704867887258302598754950 sm1 (.nd 3794162044704867887250605988000278 sm1 (.nd 3794162044704867887223667850358926 sm1 .lf .lf) .lf) (.nd 3794162044704867887258302598755398 sm3 .lf .lf)))))
def ri_37 : BT := (.nd 4029309995528438614666647677842446 sm4 (.nd 3993817775872861003007840572814350 sm3 (.nd 3794162044704867887289089041773638 sm1 (.nd 3794162044704867887289089027093518 sm3 (.nd 3794162044704867887289088777532486 sm3 (.nd 3794162044704867887285240751076422 sm3 .lf .lf) .lf) (.nd 3794162044704867887289089041773190 sm3 .lf .lf)) (.nd 3993817775866985715020364080624654 sm1 (.nd 3993817775859302646113664067056710 sm3 (.nd 3993817775859302646113664052376590 sm3 .lf .lf) .lf) (.nd 3993817775866985715020364095304774 sm1 .lf .lf))) (.nd 4002690534592359525497300049081414 sm4 (.nd 4002690534587129893501942365566022 sm39 (.nd 4002690534587129893501942350885902 sm39 (.nd 3993817775872861003007840587494470 sm1 .lf .lf) .lf) (.nd 4002690534592359525497300034401294 sm4 .lf .lf)) (.nd 4002692734837351192104619398804494 sm57 (.nd 4002691363918635397741555085620294 sm1 (.nd 4002691363918635397741555070940174 sm1 .lf .lf) .lf) (.nd 4002692734837351192104619413484614 sm57 .lf .lf)))) (.nd 4042622510151058969986914527360014 sm1 (.nd 4029312128073584445905128056566854 sm1 (.nd 4029309995532635264952305915933766 sm41 (.nd 4029309995532635264952305901253646 sm41 (.nd 4029309995528438614666647692522566 sm4 .lf .lf) .lf) (.nd 4029312128073584445905128041886734 sm1 .lf .lf)) (.nd 4042622510151058956194640668537870 sm3 (.nd 4029313228192141884325323867567174 sm44 (.nd 4029313228192141884325323852887054 sm44 .lf .lf) .lf) (.nd 4042622510151058956194640683217990 sm3 .lf .lf))) (.nd 4042622510151058989651679858012694 sm1 (.nd 4042622510151058989620893679235158 sm3 (.nd 4042622510151058989620893414994006 sm1 (.nd 4042622510151058969986914542040134 sm1 .lf .lf) .lf) (.nd 4042622510151058989624741720371342 sm1 .lf .lf)) (.nd 4042622510151058989686314606408718 sm1 (.nd 4042622510151058989659376468767814 sm3 (.nd 4042622510151058989659376468767366 sm1 .lf .lf) .lf) (.nd 4042622510151058989686314621088838 sm3 .lf .lf)))))
def ri_35 : BT := .nd 3794162044704867887285240736396302 sm1 ri_36 ri_37
def ri_39 : BT := (.nd 4113608472724565028462957329527878 sm59 (.nd 4109174420538496154246395557459014 sm3 (.nd 4109172778810905884116403310965774 sm4 (.nd 4042622510151058989690162911786054 sm1 (.nd 4042622510151058989690162911785606 sm3 (.nd 4042622510151058989690162897105934 sm3 .lf .lf) .lf) (.nd 4109171678694672664517800787063878 sm4 (.nd 4109171678694672664517800772383758 sm4 .lf .lf) .lf)) (.nd 4109174420538431590395846969406534 sm1 (.nd 4109174420538431590395846954726414 sm1 (.nd 4109172778810905884116403325645894 sm4 .lf .lf) .lf) (.nd 4109174420538496154246395542778894 sm3 .lf .lf))) (.nd 4109174437467525151435765035971598 sm7 (.nd 4109174420542628240681505178137614 sm3 (.nd 4109174420542563676830956604765254 sm3 (.nd 4109174420542563676830956590085134 sm3 .lf .lf) .lf) (.nd 4109174420542628240681505192817734 sm1 .lf .lf)) (.nd 4109174437467589715286313638704198 sm4 (.nd 4109174437467589715286313624024078 sm7 (.nd 4109174437467525151435765050651718 sm7 .lf .lf) .lf) (.nd 4113608472724565028462957314847758 sm59 .lf .lf)))) (.nd 4113611214564191883668492572308550 sm8 (.nd 4113611197643427043586743639356430 sm7 (.nd 4113611197643362479736195051303950 sm7 (.nd 4113609538982611157506921097212998 sm42 (.nd 4113609538982611157506921082532878 sm42 .lf .lf) .lf) (.nd 4113611197643362479736195065984070 sm7 .lf .lf)) (.nd 4113611214564191867905893876511814 sm3 (.nd 4113611214564191867905893861831694 sm3 (.nd 4113611197643427043586743654036550 sm4 .lf .lf) .lf) (.nd 4113611214564191883668492557628430 sm8 .lf .lf))) (.nd 4113611214564256447453619968946318 sm1 (.nd 4113611214564256447449771663568982 sm1 (.nd 4113611214564256431756442464564294 sm1 (.nd 4113611214564256431756442449884174 sm1 .lf .lf) .lf) (.nd 4113611214564256447449771927810134 sm3 .lf .lf)) (.nd 4113611214564256447488254717342790 sm3 (.nd 4113611214564256447488254717342342 sm1 (.nd 4113611214564256447480558106587670 sm1 .lf .lf) .lf) (.nd 4113611214564256447515192854983694 sm1 .lf .lf)))))
def ri_40 : BT := (.nd 4113611214568167588765456150168670 sm3 (.nd 4113611214568159519126913121911902 sm25 (.nd 4113611214568159518284134244287134 sm1 (.nd 4113611214564256447519041160360582 sm3 (.nd 4113611214564256447519041145680910 sm3 (.nd 4113611214564256447519040896119878 sm3 .lf .lf) .lf) (.nd 4113611214564256447519041160361030 sm1 .lf .lf)) (.nd 4113611214568159518907557337245198 sm5 (.nd 4113611214568159518314920687305374 sm3 (.nd 4113611214568159518284135198494934 sm5 .lf .lf) .lf) (.nd 4113611214568159519126913121911454 sm3 .lf .lf))) (.nd 4113611214568160527717723098461198 sm67 (.nd 4113611214568160527094299080655574 sm1 (.nd 4113611214568159519157699564930142 sm25 (.nd 4113611214568159519157699564929694 sm3 .lf .lf) .lf) (.nd 4113611214568160527094300005503134 sm5 .lf .lf)) (.nd 4113611214568167588734669707150430 sm8 (.nd 4113611214568167588734666492216414 sm3 (.nd 4113611214568160527960166865703070 sm82 .lf .lf) .lf) (.nd 4113611214568167588765452935234654 sm1 .lf .lf)))) (.nd 4113611214568169606655162956776654 sm3 (.nd 4113611214568167589577445369840734 sm3 (.nd 4113611214568167589577444180760086 sm72 (.nd 4113611214568167589577442154906718 sm8 (.nd 4113611214568167589077167579209934 sm70 .lf .lf) .lf) (.nd 4113611214568167589577445369840286 sm25 .lf .lf)) (.nd 4113611214568167589608231812858974 sm3 (.nd 4113611214568167589608231812858526 sm25 (.nd 4113611214568167589608228597924958 sm3 .lf .lf) .lf) (.nd 4113611214568169606385782607971534 sm1 .lf .lf))) (.nd 4113611214568177676867101298919054 sm1 (.nd 4113611214568176668056938209478230 sm3 (.nd 4113611214568176668056936462550614 sm1 (.nd 4113611214568169607220861689267406 sm3 .lf .lf) .lf) (.nd 4113611214568176668056939545364054 sm3 .lf .lf)) (.nd 4113611214568177677351986880983126 sm74 (.nd 4113611214568177677351985926775326 sm5 (.nd 4113611214568177677117242998137374 sm79 .lf .lf) .lf) (.nd 4113611214568224082134682847019734 sm5 .lf .lf)))))
def ri_38 : BT := .nd 4113611214564256447515192869663814 sm3 ri_39 ri_40
def ri_34 : BT := .nd 4042622510151058989690162647544902 sm3 ri_35 ri_38
def ri_43 : BT := (.nd 4113611214568243250012700290715862 sm25 (.nd 4113611214568240222827940804957214 sm3 (.nd 4113611214568225091318134229831894 sm5 (.nd 4113611214568225090944847654027934 sm5 (.nd 4113611214568224082758105939977798 sm60 (.nd 4113611214568224082515666929058518 sm77 .lf .lf) .lf) (.nd 4113611214568225091014117840786630 sm3 (.nd 4113611214568225090944848608235734 sm1 .lf .lf) .lf)) (.nd 4113611214568225091568271701193798 sm3 (.nd 4113611214568225091499002732884054 sm8 (.nd 4113611214568225091499002468642902 sm3 .lf .lf) .lf) (.nd 4113611214568225091568271965434950 sm8 .lf .lf))) (.nd 4113611214568243249458546430324822 sm25 (.nd 4113611214568243249277677663039574 sm75 (.nd 4113611214568240223663019886253086 sm3 (.nd 4113611214568240223097321153762334 sm1 .lf .lf) .lf) (.nd 4113611214568243249458546430316758 sm3 .lf .lf)) (.nd 4113611214568243250012699336516126 sm78 (.nd 4113611214568243249527815662875718 sm3 (.nd 4113611214568243249527815662867654 sm1 .lf .lf) .lf) (.nd 4113611214568243250012700026482774 sm8 .lf .lf)))) (.nd 4113611214568251320009134353818310 sm3 (.nd 4113611214568249302077093853934214 sm62 (.nd 4113611214568243250081969523266758 sm3 (.nd 4113611214568243250081969259033670 sm8 (.nd 4113611214568243250012700290723926 sm3 .lf .lf) .lf) (.nd 4113611214568243250081969523274822 sm3 .lf .lf)) (.nd 4113611214568249302577372833645662 sm80 (.nd 4113611214568249302577371644565014 sm5 (.nd 4113611214568249302388804681078294 sm1 .lf .lf) .lf) (.nd 4113611214568251320009134353815174 sm1 .lf .lf))) (.nd 4113611214568298733898313510564486 sm63 (.nd 4113611214568296716466551990394974 sm1 (.nd 4113611214568296716466550243467358 sm3 (.nd 4113611214568251320009134353822790 sm3 .lf .lf) .lf) (.nd 4113611214568296716466553326280798 sm3 .lf .lf)) (.nd 4113611214568298734398592490275934 sm81 (.nd 4113611214568298734086881663131854 sm1 (.nd 4113611214568298733898314699645134 sm5 .lf .lf) .lf) (.nd 4113611214568304786462986053486222 sm5 .lf .lf)))))
def ri_44 : BT := (.nd 4113611214568323954341002557662734 sm3 (.nd 4113611214568322945530838675502094 sm3 (.nd 4113611214568307813378365190452294 sm3 (.nd 4113611214568307813378365190444678 sm3 (.nd 4113611214568304787198008681170574 sm68 (.nd 4113611214568304786947870681342494 sm1 .lf .lf) .lf) (.nd 4113611214568307813378365190447814 sm1 .lf .lf)) (.nd 4113611214568322945530837735974414 sm1 (.nd 4113611214568322945157552114378254 sm5 (.nd 4113611214568322944907414643016350 sm5 .lf .lf) .lf) (.nd 4113611214568322945530837750654534 sm3 .lf .lf))) (.nd 4113611214568323938578404816073798 sm8 (.nd 4113611214568322945534686980879430 sm8 (.nd 4113611214568322945534686966199310 sm8 (.nd 4113611214568322945530838690182214 sm3 .lf .lf) .lf) (.nd 4113611214568323938578404801393678 sm8 .lf .lf)) (.nd 4113611214568323954337155206493198 sm8 (.nd 4113611214568323953960019415151630 sm66 (.nd 4113611214568323953717580404232350 sm83 .lf .lf) .lf) (.nd 4113611214568323954337155221173318 sm8 .lf .lf)))) (.nd 4113611214568370359123700417434822 sm3 (.nd 4113611214568323954341003497190414 sm3 (.nd 4113611214568323954341002572346438 sm3 (.nd 4113611214568323954341002572342854 sm1 (.nd 4113611214568323954341002557666318 sm16 .lf .lf) .lf) (.nd 4113611214568323954341003497186830 sm16 .lf .lf)) (.nd 4113611214568370359054431184883926 sm3 (.nd 4113611214568323954341003511870534 sm3 (.nd 4113611214568323954341003511866950 sm3 .lf .lf) .lf) (.nd 4113611214568370359123699463227022 sm69 .lf .lf))) (.nd 4113611214568370359677854542083142 sm3 (.nd 4113611214568370359608585309532246 sm3 (.nd 4113611214568370359608585045291094 sm1 (.nd 4113611214568370359358443346072774 sm64 .lf .lf) .lf) (.nd 4113611214568370359677854277841990 sm3 .lf .lf)) (.nd 4113611214568371368484171073074246 sm3 (.nd 4113611214568371368445688019300886 sm3 (.nd 4113611214568371368418749881659534 sm1 .lf .lf) .lf) (.nd 4113611214568378430062965598597262 sm3 .lf .lf)))))
def ri_42 : BT := .nd 4113611214568304786462987007694022 sm65 ri_43 ri_44
def ri_46 : BT := (.nd 4113611214568388517317986779280454 sm3 (.nd 4113611214568387508515519478507078 sm61 (.nd 4113611214568380447398518765000214 sm73 (.nd 4113611214568380446898240974369414 sm3 (.nd 4113611214568380446867454531351174 sm3 (.nd 4113611214568378430128386790011974 sm3 .lf .lf) .lf) (.nd 4113611214568380446898242163450062 sm71 .lf .lf)) (.nd 4113611214568380447741019851993734 sm3 (.nd 4113611214568380447710233408975942 sm3 (.nd 4113611214568380447710233408975494 sm1 .lf .lf) .lf) (.nd 4113611214568380447741019851994182 sm3 .lf .lf))) (.nd 4113611214568387509381387278234694 sm3 (.nd 4113611214568387509381386338707014 sm3 (.nd 4113611214568387509381386324026894 sm3 (.nd 4113611214568387508757963245748950 sm76 .lf .lf) .lf) (.nd 4113611214568387509381387263554574 sm1 .lf .lf)) (.nd 4113611214568388502428953389446158 sm3 (.nd 4113611214568387509385235568931910 sm3 (.nd 4113611214568387509385235554251790 sm3 .lf .lf) .lf) (.nd 4113611214568388502428953404126278 sm1 .lf .lf)))) (.nd 4113611214568388518122282603130966 sm3 (.nd 4113611214568388517568129006964950 sm3 (.nd 4113611214568388517348776437232710 sm3 (.nd 4113611214568388517348773222298694 sm3 (.nd 4113611214568388517317989994214470 sm8 .lf .lf) .lf) (.nd 4113611214568388517356473018627142 sm3 .lf .lf)) (.nd 4113611214568388517637398239515846 sm3 (.nd 4113611214568388517625853367432262 sm3 (.nd 4113611214568388517568129006973014 sm25 .lf .lf) .lf) (.nd 4113611214568388517637398239523910 sm3 .lf .lf))) (.nd 4113611214568388518160762441970758 sm8 (.nd 4113611214568388518126130908508302 sm3 (.nd 4113611214568388518122282867372118 sm3 (.nd 4113611214568388518122282867364054 sm25 .lf .lf) .lf) (.nd 4113611214568388518153069046149654 sm3 .lf .lf)) (.nd 4113611214568388518187703794545678 sm3 (.nd 4113611214568388518160765656904774 sm3 (.nd 4113611214568388518160765656904326 sm3 .lf .lf) .lf) (.nd 4113611214568388518187703809225798 sm3 .lf .lf)))))
def ri_47 : BT := (.nd 4317701607207053303105354863096846 sm3 (.nd 4113611214568388518191552099914950 sm3 (.nd 4113611214568388518191551160395334 sm3 (.nd 4113611214568388518191551145715214 sm3 (.nd 4113611214568388518191550764037190 sm3 (.nd 4113611214568388518191549017109574 sm3 .lf .lf) .lf) (.nd 4113611214568388518191551145718798 sm16 .lf .lf)) (.nd 4113611214568388518191552085239310 sm16 (.nd 4113611214568388518191551835681862 sm3 (.nd 4113611214568388518191551160398918 sm3 .lf .lf) .lf) (.nd 4113611214568388518191552085242894 sm3 .lf .lf))) (.nd 4113611214568388518191552099923014 sm1 (.nd 4113611214568388518191552099919430 sm3 (.nd 4113611214568388518191552099918534 sm3 (.nd 4113611214568388518191552099915398 sm3 .lf .lf) .lf) (.nd 4113611214568388518191552099922566 sm3 .lf .lf)) (.nd 4317701607202856652819696639685646 sm45 (.nd 4317701302557746755785571968627782 sm3 (.nd 4317701302557746755785571953947662 sm3 .lf .lf) .lf) (.nd 4317701607202856652819696654365766 sm45 .lf .lf)))) (.nd 4317704044402667826540261838042126 sm3 (.nd 4317703739752199134343835241821254 sm1 (.nd 4317702639617371605585395241595974 sm40 (.nd 4317702639617371605585395226915854 sm40 (.nd 4317701607207053303105354877776966 sm3 .lf .lf) .lf) (.nd 4317703739752199134343835227141134 sm1 .lf .lf)) (.nd 4317704044401505681663618136290318 sm3 (.nd 4317703739753361279220478943573062 sm1 (.nd 4317703739753361279220478928892942 sm3 .lf .lf) .lf) (.nd 4317704044401505681663618150970438 sm1 .lf .lf))) (.nd 4322140652253206244891929974551622 sm3 (.nd 4322140533778023975704430736979014 sm1 (.nd 4322140533778023975704430722298894 sm1 (.nd 4317704044402667826540261852722246 sm1 .lf .lf) .lf) (.nd 4322140652253206244891929959871502 sm3 .lf .lf)) (.nd 4353197973483615596041099950830606 sm3 (.nd 4322140821503466629445500313941062 sm1 (.nd 4322140821503466629445500299260942 sm3 .lf .lf) .lf) (.nd 4353197973483615596041099965510726 sm3 .lf .lf)))))
def ri_45 : BT := .nd 4113611214568388518191548884988998 sm3 ri_46 ri_47
def ri_41 : BT := .nd 4113611214568378430089903736238614 sm1 ri_42 ri_45
def ri_33 : BT := .nd 4113611214568224082134683771867294 sm1 ri_34 ri_41
def ri_51 : BT := (.nd 4362071680010447549916266739676230 sm3 (.nd 4362070309074945152444092971889734 sm49 (.nd 4362068108829953485836773592806414 sm3 (.nd 4353198261209058249782169542472774 sm1 (.nd 4353198261209058249782169527792654 sm3 (.nd 4353198091958797865228599203083334 sm1 .lf .lf) .lf) (.nd 4362067973429745180164242172949574 sm3 (.nd 4362067973429745180164242158269454 sm3 .lf .lf) .lf)) (.nd 4362068108835183117832131291001926 sm47 (.nd 4362068108835183117832131276321806 sm47 (.nd 4362068108829953485836773607486534 sm3 .lf .lf) .lf) (.nd 4362070309074945152444092957209614 sm49 .lf .lf))) (.nd 4362071680010447549854693838958734 sm1 (.nd 4362071680010447549850845533581398 sm1 (.nd 4362071680010447547949790193398854 sm1 (.nd 4362071680010447547949790178718734 sm1 .lf .lf) .lf) (.nd 4362071680010447549850845797822550 sm3 .lf .lf)) (.nd 4362071680010447549889328587355206 sm3 (.nd 4362071680010447549889328587354758 sm1 (.nd 4362071680010447549881631976600086 sm1 .lf .lf) .lf) (.nd 4362071680010447549916266724996110 sm1 .lf .lf)))) (.nd 4362071815410655855554163411137046 sm3 (.nd 4362071815410655853622321613255694 sm3 (.nd 4362071680010447549920115030372998 sm3 (.nd 4362071680010447549920115015693326 sm3 (.nd 4362071680010447549920114766132294 sm3 .lf .lf) .lf) (.nd 4362071680010447549920115030373446 sm1 .lf .lf)) (.nd 4362071815410655855523377232359510 sm3 (.nd 4362071815410655855523376968118358 sm3 (.nd 4362071815410655853622321627935814 sm1 .lf .lf) .lf) (.nd 4362071815410655855527225273495694 sm3 .lf .lf))) (.nd 4362071815410655855592646200669254 sm3 (.nd 4362071815410655855588798159533070 sm3 (.nd 4362071815410655855561860021892166 sm3 (.nd 4362071815410655855561860021891718 sm3 .lf .lf) .lf) (.nd 4362071815410655855588798174213190 sm3 .lf .lf)) (.nd 4362071815410655855592646464910406 sm1 (.nd 4362071815410655855592646464909958 sm3 (.nd 4362071815410655855592646450230286 sm3 .lf .lf) .lf) (.nd 4393125430064430331985956913427470 sm37 .lf .lf)))))
def ri_52 : BT := (.nd 4397562325636343911049006134211654 sm1 (.nd 4393129238191286001324507247555654 sm1 (.nd 4393129238187153914889397597516814 sm3 (.nd 4393129238187089351038849009464334 sm3 (.nd 4393126496343394989011351429854278 sm52 (.nd 4393126496343394989011351415174158 sm52 .lf .lf) .lf) (.nd 4393129238187089351038849024144454 sm3 .lf .lf)) (.nd 4393129238191221437473958659503174 sm1 (.nd 4393129238191221437473958644823054 sm1 (.nd 4393129238187153914889397612196934 sm3 .lf .lf) .lf) (.nd 4393129238191286001324507232875534 sm3 .lf .lf))) (.nd 4397562190236135605376474684994574 sm3 (.nd 4393129255116247475929315678761998 sm3 (.nd 4393129255116182912078767105389638 sm1 (.nd 4393129255116182912078767090709518 sm3 .lf .lf) .lf) (.nd 4393129255116247475929315693442118 sm1 .lf .lf)) (.nd 4397562190250275034708973070988358 sm4 (.nd 4397562190250275034708973056308238 sm7 (.nd 4397562190236135605376474699674694 sm1 .lf .lf) .lf) (.nd 4397562325636343911049006119531534 sm3 .lf .lf)))) (.nd 4397563544247709511927712609350726 sm1 (.nd 4397563290373287352956507957638158 sm3 (.nd 4397562359500406289591121382618126 sm3 (.nd 4397562325650483340381504505525318 sm1 (.nd 4397562325650483340381504490845198 sm3 .lf .lf) .lf) (.nd 4397562359500406289591121397298246 sm1 .lf .lf)) (.nd 4397563290373287388422355037860934 sm4 (.nd 4397563290373287388422355023180814 sm9 (.nd 4397563290373287352956507972318278 sm1 .lf .lf) .lf) (.nd 4397563544247709511927712594670606 sm3 .lf .lf))) (.nd 4397563595022593935676716755595406 sm3 (.nd 4397563595022593935672868450218070 sm3 (.nd 4397563595022593900276290881467462 sm1 (.nd 4397563595022593900276290866787342 sm3 .lf .lf) .lf) (.nd 4397563595022593935672868714459222 sm3 .lf .lf)) (.nd 4397563595022593935711351503991878 sm3 (.nd 4397563595022593935711351503991430 sm3 (.nd 4397563595022593935703654893236758 sm3 .lf .lf) .lf) (.nd 4397563595022593935738289641632782 sm3 .lf .lf)))))
def ri_50 : BT := .nd 4393125430064430331985956928107590 sm37 ri_51 ri_52
def ri_54 : BT := (.nd 4397565896816837973092753487573078 sm3 (.nd 4397565727567739731514771245511750 sm1 (.nd 4397565727566577586638127529079822 sm3 (.nd 4397563595022593935742137947009670 sm3 (.nd 4397563595022593935742137932329998 sm3 (.nd 4397563595022593935742137682768966 sm3 .lf .lf) .lf) (.nd 4397563595022593935742137947010118 sm1 .lf .lf)) (.nd 4397565727567739696048924179969094 sm4 (.nd 4397565727567739696048924165288974 sm9 (.nd 4397565727566577586638127543759942 sm1 .lf .lf) .lf) (.nd 4397565727567739731514771230831630 sm3 .lf .lf))) (.nd 4397565896802698543829524334130190 sm7 (.nd 4397565862966785894280983800591374 sm3 (.nd 4397565744491603625093484577698886 sm1 (.nd 4397565744491603625093484563018766 sm3 .lf .lf) .lf) (.nd 4397565862966785894280983815271494 sm1 .lf .lf)) (.nd 4397565896816837971191697883149382 sm1 (.nd 4397565896816837971191697868469262 sm3 (.nd 4397565896802698543829524348810310 sm4 .lf .lf) .lf) (.nd 4397565896816837973092753223331926 sm3 .lf .lf)))) (.nd 4397565896816837973162022720123974 sm1 (.nd 4397565896816837973158174414746638 sm3 (.nd 4397565896816837973131236277105286 sm3 (.nd 4397565896816837973123539666350614 sm3 (.nd 4397565896816837973096601528709262 sm3 .lf .lf) .lf) (.nd 4397565896816837973131236277105734 sm3 .lf .lf)) (.nd 4397565896816837973162022705443854 sm3 (.nd 4397565896816837973162022455882822 sm3 (.nd 4397565896816837973158174429426758 sm3 .lf .lf) .lf) (.nd 4397565896816837973162022720123526 sm3 .lf .lf))) (.nd 4397566032202906849502055768667150 sm3 (.nd 4397566015292084804229745694094350 sm3 (.nd 4397566015292020240379197120721990 sm1 (.nd 4397566015292020240379197106041870 sm3 .lf .lf) .lf) (.nd 4397566015292084804229745708774470 sm1 .lf .lf)) (.nd 4397566032203487921940377634223174 sm1 (.nd 4397566032203487921940377619543054 sm3 (.nd 4397566032202906849502055783347270 sm1 .lf .lf) .lf) (.nd 4397566032211170990847077647791118 sm3 .lf .lf)))))
def ri_55 : BT := (.nd 4397566032215884133957910452909126 sm1 (.nd 4397566032212914208123560161325590 sm3 (.nd 4397566032212914192399444504622094 sm3 (.nd 4397566032212849644311494612366350 sm8 (.nd 4397566032212849628548895931249734 sm1 (.nd 4397566032212849628548895916569614 sm3 .lf .lf) .lf) (.nd 4397566032212849644311494627046470 sm4 .lf .lf)) (.nd 4397566032212914208092773982548054 sm3 (.nd 4397566032212914208092773718306902 sm3 (.nd 4397566032212914192399444519302214 sm1 .lf .lf) .lf) (.nd 4397566032212914208096622023684238 sm3 .lf .lf))) (.nd 4397566032212914208162042950857798 sm3 (.nd 4397566032212914208158194909721614 sm3 (.nd 4397566032212914208131256772080710 sm3 (.nd 4397566032212914208131256772080262 sm3 .lf .lf) .lf) (.nd 4397566032212914208158194924401734 sm3 .lf .lf)) (.nd 4397566032212914208162043215098950 sm1 (.nd 4397566032212914208162043215098502 sm3 (.nd 4397566032212914208162043200418830 sm3 .lf .lf) .lf) (.nd 4397566032215884133957910438229006 sm3 .lf .lf)))) (.nd 4397566032216818287737302060241054 sm5 (.nd 4397566032216817279769915176649374 sm3 (.nd 4397566032216817278957922742043294 sm3 (.nd 4397566032216817278927137253232854 sm5 (.nd 4397566032216817278927136299025054 sm1 .lf .lf) .lf) (.nd 4397566032216817279550559391983118 sm5 .lf .lf)) (.nd 4397566032216817279800701619668062 sm6 (.nd 4397566032216817279800701619667614 sm1 (.nd 4397566032216817279769915176649822 sm25 .lf .lf) .lf) (.nd 4397566032216818287737301135393494 sm1 .lf .lf))) (.nd 4397566032216825349408454989972574 sm1 (.nd 4397566032216825349377668546954334 sm3 (.nd 4397566032216818288603168920440990 sm82 (.nd 4397566032216818288360725153199118 sm67 .lf .lf) .lf) (.nd 4397566032216825349377671761888350 sm8 .lf .lf)) (.nd 4397566032216825350220444209644638 sm8 (.nd 4397566032216825349720169633947854 sm70 (.nd 4397566032216825349408458204906590 sm1 .lf .lf) .lf) (.nd 4397566032216825350220446235498006 sm72 .lf .lf)))))
def ri_53 : BT := .nd 4397566032211170990847077662471238 sm1 ri_54 ri_55
def ri_49 : BT := .nd 4397563595022593935738289656312902 sm3 ri_50 ri_53
def ri_58 : BT := (.nd 4397566032216882851657119895524550 sm3 (.nd 4397566032216835437510103353656974 sm1 (.nd 4397566032216827367298165011514574 sm3 (.nd 4397566032216825350251233867596446 sm6 (.nd 4397566032216825350251230652662878 sm1 (.nd 4397566032216825350220447424578654 sm3 .lf .lf) .lf) (.nd 4397566032216827367028784662709454 sm1 (.nd 4397566032216825350251233867596894 sm1 .lf .lf) .lf)) (.nd 4397566032216834428699940264216150 sm3 (.nd 4397566032216834428699938517288534 sm1 (.nd 4397566032216827367863863744005326 sm1 .lf .lf) .lf) (.nd 4397566032216834428699941600101974 sm1 .lf .lf))) (.nd 4397566032216881842777685826605214 sm1 (.nd 4397566032216835437994988935721046 sm74 (.nd 4397566032216835437994987981513246 sm5 (.nd 4397566032216835437760245052875294 sm79 .lf .lf) .lf) (.nd 4397566032216881842777684901757654 sm5 .lf .lf)) (.nd 4397566032216882851587849708765854 sm5 (.nd 4397566032216881843401107994715718 sm60 (.nd 4397566032216881843158668983796438 sm77 .lf .lf) .lf) (.nd 4397566032216882851587850662973654 sm1 .lf .lf)))) (.nd 4397566032216901010101548485054678 sm3 (.nd 4397566032216882852211274020172870 sm4 (.nd 4397566032216882852142004787621974 sm8 (.nd 4397566032216882852142004523380822 sm3 (.nd 4397566032216882851961136284569814 sm5 .lf .lf) .lf) (.nd 4397566032216882852211273755931718 sm1 .lf .lf)) (.nd 4397566032216897984306021940991006 sm1 (.nd 4397566032216897983740323208500254 sm1 (.nd 4397566032216897983470942859695134 sm3 .lf .lf) .lf) (.nd 4397566032216901009920679717777494 sm75 .lf .lf))) (.nd 4397566032216901010655702081220694 sm8 (.nd 4397566032216901010170817717613638 sm1 (.nd 4397566032216901010170817717605574 sm1 (.nd 4397566032216901010101548485062742 sm25 .lf .lf) .lf) (.nd 4397566032216901010655701391254046 sm78 .lf .lf)) (.nd 4397566032216901010724971313771590 sm4 (.nd 4397566032216901010655702345461846 sm3 (.nd 4397566032216901010655702345453782 sm25 .lf .lf) .lf) (.nd 4397566032216901010724971578004678 sm1 .lf .lf)))))
def ri_59 : BT := (.nd 4397566032216965574021367245185734 sm1 (.nd 4397566032216954477109555381018718 sm1 (.nd 4397566032216909080652136408553094 sm1 (.nd 4397566032216907063220373699302934 sm5 (.nd 4397566032216907063031806735816214 sm1 (.nd 4397566032216907062720095908672134 sm62 .lf .lf) .lf) (.nd 4397566032216907063220374888383582 sm80 .lf .lf)) (.nd 4397566032216954477109552298205278 sm3 (.nd 4397566032216909080652136408560710 sm1 (.nd 4397566032216909080652136408556230 sm3 .lf .lf) .lf) (.nd 4397566032216954477109554045132894 sm1 .lf .lf))) (.nd 4397566032216962547105988108224142 sm5 (.nd 4397566032216956494729883717869774 sm1 (.nd 4397566032216956494541316754383054 sm5 (.nd 4397566032216956494541315565302406 sm63 .lf .lf) .lf) (.nd 4397566032216956495041594545013854 sm81 .lf .lf)) (.nd 4397566032216962547841010735908494 sm68 (.nd 4397566032216962547590872736080414 sm1 (.nd 4397566032216962547105989062431942 sm65 .lf .lf) .lf) (.nd 4397566032216965574021367245182598 sm3 .lf .lf)))) (.nd 4397566032216981699221406856131598 sm8 (.nd 4397566032216980706173839805392454 sm3 (.nd 4397566032216980705800554169116174 sm5 (.nd 4397566032216980705550416697754270 sm5 (.nd 4397566032216965574021367245190214 sm1 .lf .lf) .lf) (.nd 4397566032216980706173839790712334 sm1 .lf .lf)) (.nd 4397566032216980706177689020937230 sm8 (.nd 4397566032216980706173840744920134 sm1 (.nd 4397566032216980706173840730240014 sm3 .lf .lf) .lf) (.nd 4397566032216980706177689035617350 sm4 .lf .lf))) (.nd 4397566032216981714980157275911238 sm4 (.nd 4397566032216981714603021469889550 sm66 (.nd 4397566032216981714360582458970270 sm83 (.nd 4397566032216981699221406870811718 sm4 .lf .lf) .lf) (.nd 4397566032216981714980157261231118 sm8 .lf .lf)) (.nd 4397566032216981714984004627080774 sm1 (.nd 4397566032216981714984004612404238 sm16 (.nd 4397566032216981714984004612400654 sm3 .lf .lf) .lf) (.nd 4397566032216981714984004627084358 sm1 .lf .lf)))))
def ri_57 : BT := .nd 4397566032216901010724971578012742 sm1 ri_58 ri_59
def ri_61 : BT := (.nd 4397566032217038207541244218187982 sm71 (.nd 4397566032217028120320856332579910 sm1 (.nd 4397566032217028119766701517964942 sm69 (.nd 4397566032216981714984005566608454 sm1 (.nd 4397566032216981714984005566604870 sm1 (.nd 4397566032216981714984005551928334 sm3 .lf .lf) .lf) (.nd 4397566032217028119697433239621846 sm3 .lf .lf)) (.nd 4397566032217028120251587100029014 sm1 (.nd 4397566032217028120001445400810694 sm64 (.nd 4397566032217028119766702472172742 sm3 .lf .lf) .lf) (.nd 4397566032217028120251587364270166 sm1 .lf .lf))) (.nd 4397566032217036190705967653335182 sm3 (.nd 4397566032217029129088690074038806 sm3 (.nd 4397566032217029129061751936397454 sm1 (.nd 4397566032217028120320856596821062 sm1 .lf .lf) .lf) (.nd 4397566032217029129127173127812166 sm1 .lf .lf)) (.nd 4397566032217038207510456586089094 sm3 (.nd 4397566032217036190771388844749894 sm1 (.nd 4397566032217036190732905790976534 sm1 .lf .lf) .lf) (.nd 4397566032217038207541243029107334 sm3 .lf .lf)))) (.nd 4397566032217045270024389318292494 sm1 (.nd 4397566032217038208384021906732102 sm1 (.nd 4397566032217038208353235463713862 sm1 (.nd 4397566032217038208353235463713414 sm1 (.nd 4397566032217038208041520819738134 sm73 .lf .lf) .lf) (.nd 4397566032217038208384021906731654 sm1 .lf .lf)) (.nd 4397566032217045270024388378764814 sm3 (.nd 4397566032217045269400965300486870 sm76 (.nd 4397566032217045269158521533244998 sm61 .lf .lf) .lf) (.nd 4397566032217045270024388393444934 sm3 .lf .lf))) (.nd 4397566032217046243368707089118278 sm1 (.nd 4397566032217045270028237623669830 sm1 (.nd 4397566032217045270028237608989710 sm1 (.nd 4397566032217045270024389332972614 sm1 .lf .lf) .lf) (.nd 4397566032217046243368707074438158 sm3 .lf .lf)) (.nd 4397566032217046259131305770234894 sm3 (.nd 4397566032217046245339031926092870 sm1 (.nd 4397566032217046245339031911412750 sm3 .lf .lf) .lf) (.nd 4397566032217046259131305784915014 sm1 .lf .lf)))))
def ri_62 : BT := (.nd 4397566032217046278803767711642246 sm1 (.nd 4397566032217046278211131061710934 sm6 (.nd 4397566032217046277960992048952390 sm4 (.nd 4397566032217046276864229317686342 sm1 (.nd 4397566032217046276864229303006222 sm3 (.nd 4397566032217046263071955458864198 sm1 .lf .lf) .lf) (.nd 4397566032217046277960988834018374 sm1 .lf .lf)) (.nd 4397566032217046277999475073365062 sm1 (.nd 4397566032217046277991778491970630 sm1 (.nd 4397566032217046277991775277036614 sm1 .lf .lf) .lf) (.nd 4397566032217046278211131061702870 sm1 .lf .lf))) (.nd 4397566032217046278765284922101974 sm6 (.nd 4397566032217046278280400294261830 sm1 (.nd 4397566032217046278280400294253766 sm1 (.nd 4397566032217046278268855422170182 sm1 .lf .lf) .lf) (.nd 4397566032217046278765284657868886 sm1 .lf .lf)) (.nd 4397566032217046278796071100887574 sm1 (.nd 4397566032217046278769132963246222 sm1 (.nd 4397566032217046278765284922110038 sm1 .lf .lf) .lf) (.nd 4397566032217046278803764496708678 sm4 .lf .lf)))) (.nd 4397566032217046278834553215136838 sm1 (.nd 4397566032217046278834551071847494 sm1 (.nd 4397566032217046278830705863963718 sm1 (.nd 4397566032217046278830705849283598 sm1 (.nd 4397566032217046278803767711642694 sm1 .lf .lf) .lf) (.nd 4397566032217046278834550939726918 sm1 .lf .lf)) (.nd 4397566032217046278834553200456718 sm5 (.nd 4397566032217046278834553200453134 sm1 (.nd 4397566032217046278834552818775110 sm1 .lf .lf) .lf) (.nd 4397566032217046278834553215133254 sm1 .lf .lf))) (.nd 4397566032217046278834554154653318 sm1 (.nd 4397566032217046278834554139980814 sm1 (.nd 4397566032217046278834554139977230 sm5 (.nd 4397566032217046278834553890419782 sm1 .lf .lf) .lf) (.nd 4397566032217046278834554154652870 sm1 .lf .lf)) (.nd 4397566032217046278834554154660486 sm1 (.nd 4397566032217046278834554154657350 sm1 (.nd 4397566032217046278834554154656454 sm1 .lf .lf) .lf) (.nd 4397566032217046278834554154660934 sm0 .lf .lf)))))
def ri_60 : BT := .nd 4397566032217046263071955444184078 sm3 ri_61 ri_62
def ri_56 : BT := .nd 4397566032216981714984005551924750 sm16 ri_57 ri_60
def ri_48 : BT := .nd 4397566032216825350220447424578206 sm25 ri_49 ri_56
def ri_32 : BT := .nd 4353198091958797865228599188403214 sm1 ri_33 ri_48
def ri_0 : BT := .nd 3758669825039218303861624992576582 sm54 ri_1 ri_32
def ri : BT := ri_0
def S6 : Nat → Option Ev.Spec := upS S5 25 (mapS ri)
def rt : Res PV := callF P S6 12 55 [.ref 0] [.box 0]
end
end K76

set_option Elab.async false
set_option linter.all false
set_option maxRecDepth 100000
set_option maxHeartbeats 0
namespace K76
open Ev
noncomputable section
theorem cy_clean : allL cleanG cyTab = true := by decide +kernel
theorem cy1 : chkM m1 (callF P S1 10 48 [.ref 0, .int 1] [.box 0]) = true := by decide +kernel
theorem cy2 : chkM m2 (callF P S1 10 48 [.ref 0, .int 2] [.box 0]) = true := by decide +kernel
theorem cy3 : chkM m3 (callF P S1 10 48 [.ref 0, .int 3] [.box 0]) = true := by decide +kernel
theorem cy4 : chkM m4 (callF P S1 10 48 [.ref 0, .int 4] [.box 0]) = true := by decide +kernel
theorem cq_3_ok : cq_3.all (mapC (callF P S3 10 51)) = true := by decide +kernel
theorem cq_4_ok : cq_4.all (mapC (callF P S3 10 51)) = true := by decide +kernel
theorem cq_2_ok : cq_2.all (mapC (callF P S3 10 51)) = true := BT.all_nd (by decide +kernel) cq_3_ok cq_4_ok
theorem cq_5_ok : cq_5.all (mapC (callF P S3 10 51)) = true := by decide +kernel
theorem cq_1_ok : cq_1.all (mapC (callF P S3 10 51)) = true := BT.all_nd (by decide +kernel) cq_2_ok cq_5_ok
theorem cq_7_ok : cq_7.all (mapC (callF P S3 10 51)) = true := by decide +kernel
theorem cq_8_ok : cq_8.all (mapC (callF P S3 10 51)) = true := by decide +kernel
theorem cq_6_ok : cq_6.all (mapC (callF P S3 10 51)) = true := BT.all_nd (by decide +kernel) cq_7_ok cq_8_ok
theorem cq_0_ok : cq_0.all (mapC (callF P S3 10 51)) = true := BT.all_nd (by decide +kernel) cq_1_ok cq_6_ok
theorem lo_5_ok : lo_5.all (mapC (callF P S4 10 53)) = true := by decide +kernel
theorem lo_6_ok : lo_6.all (mapC (callF P S4 10 53)) = true := by decide +kernel
theorem lo_4_ok : lo_4.all (mapC (callF P S4 10 53)) = true := BT.all_nd (by decide +kernel) lo_5_ok lo_6_ok
theorem lo_8_ok : lo_8.all (mapC (callF P S4 10 53)) = true := by decide +kernel
theorem lo_9_ok : lo_9.all (mapC (callF P S4 10 53)) = true := by decide +kernel
theorem lo_7_ok : lo_7.all (mapC (callF P S4 10 53)) = true := BT.all_nd (by decide +kernel) lo_8_ok lo_9_ok
theorem lo_3_ok : lo_3.all (mapC (callF P S4 10 53)) = true := BT.all_nd (by decide +kernel) lo_4_ok lo_7_ok
theorem lo_12_ok : lo_12.all (mapC (callF P S4 10 53)) = true := by decide +kernel
theorem lo_13_ok : lo_13.all (mapC (callF P S4 10 53)) = true := by decide +kernel
theorem lo_11_ok : lo_11.all (mapC (callF P S4 10 53)) = true := BT.all_nd (by decide +kernel) lo_12_ok lo_13_ok
theorem lo_15_ok : lo_15.all (mapC (callF P S4 10 53)) = true := by decide +kernel
theorem lo_16_ok : lo_16.all (mapC (callF P S4 10 53)) = true := by decide +kernel
theorem lo_14_ok : lo_14.all (mapC (callF P S4 10 53)) = true := BT.all_nd (by decide +kernel) lo_15_ok lo_16_ok
theorem lo_10_ok : lo_10.all (mapC (callF P S4 10 53)) = true := BT.all_nd (by decide +kernel) lo_11_ok lo_14_ok
theorem lo_2_ok : lo_2.all (mapC (callF P S4 10 53)) = true := BT.all_nd (by decide +kernel) lo_3_ok lo_10_ok
theorem lo_20_ok : lo_20.all (mapC (callF P S4 10 53)) = true := by decide +kernel
theorem lo_21_ok : lo_21.all (mapC (callF P S4 10 53)) = true := by decide +kernel
theorem lo_19_ok : lo_19.all (mapC (callF P S4 10 53)) = true := BT.all_nd (by decide +kernel) lo_20_ok lo_21_ok
theorem lo_23_ok : lo_23.all (mapC (callF P S4 10 53)) = true := by decide +kernel
theorem lo_24_ok : lo_24.all (mapC (callF P S4 10 53)) = true := by decide +kernel
theorem lo_22_ok : lo_22.all (mapC (callF P S4 10 53)) = true := BT.all_nd (by decide +kernel) lo_23_ok lo_24_ok
theorem lo_18_ok : lo_18.all (mapC (callF P S4 10 53)) = true := BT.all_nd (by decide +kernel) lo_19_ok lo_22_ok
theorem lo_27_ok : lo_27.all (mapC (callF P S4 10 53)) = true := by decide +kernel
theorem lo_28_ok : lo_28.all (mapC (callF P S4 10 53)) = true := by decide +kernel
theorem lo_26_ok : lo_26.all (mapC (callF P S4 10 53)) = true := BT.all_nd (by decide +kernel) lo_27_ok lo_28_ok
theorem lo_30_ok : lo_30.all (mapC (callF P S4 10 53)) = true := by decide +kernel
theorem lo_31_ok : lo_31.all (mapC (callF P S4 10 53)) = true := by decide +kernel
theorem lo_29_ok : lo_29.all (mapC (callF P S4 10 53)) = true := BT.all_nd (by decide +kernel) lo_30_ok lo_31_ok
theorem lo_25_ok : lo_25.all (mapC (callF P S4 10 53)) = true := BT.all_nd (by decide +kernel) lo_26_ok lo_29_ok
theorem lo_17_ok : lo_17.all (mapC (callF P S4 10 53)) = true := BT.all_nd (by decide +kernel) lo_18_ok lo_25_ok
theorem lo_1_ok : lo_1.all (mapC (callF P S4 10 53)) = true := BT.all_nd (by decide +kernel) lo_2_ok lo_17_ok
theorem lo_36_ok : lo_36.all (mapC (callF P S4 10 53)) = true := by decide +kernel
theorem lo_37_ok : lo_37.all (mapC (callF P S4 10 53)) = true := by decide +kernel
theorem lo_35_ok : lo_35.all (mapC (callF P S4 10 53)) = true := BT.all_nd (by decide +kernel) lo_36_ok lo_37_ok
theorem lo_39_ok : lo_39.all (mapC (callF P S4 10 53)) = true := by decide +kernel
theorem lo_40_ok : lo_40.all (mapC (callF P S4 10 53)) = true := by decide +kernel
theorem lo_38_ok : lo_38.all (mapC (callF P S4 10 53)) = true := BT.all_nd (by decide +kernel) lo_39_ok lo_40_ok
theorem lo_34_ok : lo_34.all (mapC (callF P S4 10 53)) = true := BT.all_nd (by decide +kernel) lo_35_ok lo_38_ok
theorem lo_43_ok : lo_43.all (mapC (callF P S4 10 53)) = true := by decide +kernel
theorem lo_44_ok : lo_44.all (mapC (callF P S4 10 53)) = true := by decide +kernel
theorem lo_42_ok : lo_42.all (mapC (callF P S4 10 53)) = true := BT.all_nd (by decide +kernel) lo_43_ok lo_44_ok
theorem lo_46_ok : lo_46.all (mapC (callF P S4 10 53)) = true := by decide +kernel
theorem lo_47_ok : lo_47.all (mapC (callF P S4 10 53)) = true := by decide +kernel
theorem lo_45_ok : lo_45.all (mapC (callF P S4 10 53)) = true := BT.all_nd (by decide +kernel) lo_46_ok lo_47_ok
theorem lo_41_ok : lo_41.all (mapC (callF P S4 10 53)) = true := BT.all_nd (by decide +kernel) lo_42_ok lo_45_ok
theorem lo_33_ok : lo_33.all (mapC (callF P S4 10 53)) = true := BT.all_nd (by decide +kernel) lo_34_ok lo_41_ok
theorem lo_51_ok : lo_51.all (mapC (callF P S4 10 53)) = true := by decide +kernel
theorem lo_52_ok : lo_52.all (mapC (callF P S4 10 53)) = true := by decide +kernel
theorem lo_50_ok : lo_50.all (mapC (callF P S4 10 53)) = true := BT.all_nd (by decide +kernel) lo_51_ok lo_52_ok
theorem lo_54_ok : lo_54.all (mapC (callF P S4 10 53)) = true := by decide +kernel
theorem lo_55_ok : lo_55.all (mapC (callF P S4 10 53)) = true := by decide +kernel
theorem lo_53_ok : lo_53.all (mapC (callF P S4 10 53)) = true := BT.all_nd (by decide +kernel) lo_54_ok lo_55_ok
theorem lo_49_ok : lo_49.all (mapC (callF P S4 10 53)) = true := BT.all_nd (by decide +kernel) lo_50_ok lo_53_ok
theorem lo_58_ok : lo_58.all (mapC (callF P S4 10 53)) = true := by decide +kernel
theorem lo_59_ok : lo_59.all (mapC (callF P S4 10 53)) = true := by decide +kernel
theorem lo_57_ok : lo_57.all (mapC (callF P S4 10 53)) = true := BT.all_nd (by decide +kernel) lo_58_ok lo_59_ok
theorem lo_61_ok : lo_61.all (mapC (callF P S4 10 53)) = true := by decide +kernel
theorem lo_62_ok : lo_62.all (mapC (callF P S4 10 53)) = true := by decide +kernel
theorem lo_60_ok : lo_60.all (mapC (callF P S4 10 53)) = true := BT.all_nd (by decide +kernel) lo_61_ok lo_62_ok
theorem lo_56_ok : lo_56.all (mapC (callF P S4 10 53)) = true := BT.all_nd (by decide +kernel) lo_57_ok lo_60_ok
theorem lo_48_ok : lo_48.all (mapC (callF P S4 10 53)) = true := BT.all_nd (by decide +kernel) lo_49_ok lo_56_ok
theorem lo_32_ok : lo_32.all (mapC (callF P S4 10 53)) = true := BT.all_nd (by decide +kernel) lo_33_ok lo_48_ok
theorem lo_0_ok : lo_0.all (mapC (callF P S4 10 53)) = true := BT.all_nd (by decide +kernel) lo_1_ok lo_32_ok
theorem ri_5_ok : ri_5.all (mapC (callF P S5 10 25)) = true := by decide +kernel
theorem ri_6_ok : ri_6.all (mapC (callF P S5 10 25)) = true := by decide +kernel
theorem ri_4_ok : ri_4.all (mapC (callF P S5 10 25)) = true := BT.all_nd (by decide +kernel) ri_5_ok ri_6_ok
theorem ri_8_ok : ri_8.all (mapC (callF P S5 10 25)) = true := by decide +kernel
theorem ri_9_ok : ri_9.all (mapC (callF P S5 10 25)) = true := by decide +kernel
theorem ri_7_ok : ri_7.all (mapC (callF P S5 10 25)) = true := BT.all_nd (by decide +kernel) ri_8_ok ri_9_ok
theorem ri_3_ok : ri_3.all (mapC (callF P S5 10 25)) = true := BT.all_nd (by decide +kernel) ri_4_ok ri_7_ok
theorem ri_12_ok : ri_12.all (mapC (callF P S5 10 25)) = true := by decide +kernel
theorem ri_13_ok : ri_13.all (mapC (callF P S5 10 25)) = true := by decide +kernel
theorem ri_11_ok : ri_11.all (mapC (callF P S5 10 25)) = true := BT.all_nd (by decide +kernel) ri_12_ok ri_13_ok
theorem ri_15_ok : ri_15.all (mapC (callF P S5 10 25)) = true := by decide +kernel
theorem ri_16_ok : ri_16.all (mapC (callF P S5 10 25)) = true := by decide +kernel
theorem ri_14_ok : ri_14.all (mapC (callF P S5 10 25)) = true := BT.all_nd (by decide +kernel) ri_15_ok ri_16_ok
theorem ri_10_ok : ri_10.all (mapC (callF P S5 10 25)) = true := BT.all_nd (by decide +kernel) ri_11_ok ri_14_ok
theorem ri_2_ok : ri_2.all (mapC (callF P S5 10 25)) = true := BT.all_nd (by decide +kernel) ri_3_ok ri_10_ok
theorem ri_20_ok : ri_20.all (mapC (callF P S5 10 25)) = true := by decide +kernel
theorem ri_21_ok : ri_21.all (mapC (callF P S5 10 25)) = true := by decide +kernel
theorem ri_19_ok : ri_19.all (mapC (callF P S5 10 25)) = true := BT.all_nd (by decide +kernel) ri_20_ok ri_21_ok
theorem ri_23_ok : ri_23.all (mapC (callF P S5 10 25)) = true := by decide +kernel
theorem ri_24_ok : ri_24.all (mapC (callF P S5 10 25)) = true := by decide +kernel
theorem ri_22_ok : ri_22.all (mapC (callF P S5 10 25)) = true := BT.all_nd (by decide +kernel) ri_23_ok ri_24_ok
theorem ri_18_ok : ri_18.all (mapC (callF P S5 10 25)) = true := BT.all_nd (by decide +kernel) ri_19_ok ri_22_ok
theorem ri_27_ok : ri_27.all (mapC (callF P S5 10 25)) = true := by decide +kernel
theorem ri_28_ok : ri_28.all (mapC (callF P S5 10 25)) = true := by decide +kernel
theorem ri_26_ok : ri_26.all (mapC (callF P S5 10 25)) = true := BT.all_nd (by decide +kernel) ri_27_ok ri_28_ok
theorem ri_30_ok : ri_30.all (mapC (callF P S5 10 25)) = true := by decide +kernel
theorem ri_31_ok : ri_31.all (mapC (callF P S5 10 25)) = true := by decide +kernel
theorem ri_29_ok : ri_29.all (mapC (callF P S5 10 25)) = true := BT.all_nd (by decide +kernel) ri_30_ok ri_31_ok
theorem ri_25_ok : ri_25.all (mapC (callF P S5 10 25)) = true := BT.all_nd (by decide +kernel) ri_26_ok ri_29_ok
theorem ri_17_ok : ri_17.all (mapC (callF P S5 10 25)) = true := BT.all_nd (by decide +kernel) ri_18_ok ri_25_ok
theorem ri_1_ok : ri_1.all (mapC (callF P S5 10 25)) = true := BT.all_nd (by decide +kernel) ri_2_ok ri_17_ok
theorem ri_36_ok : ri_36.all (mapC (callF P S5 10 25)) = true := by decide +kernel
theorem ri_37_ok : ri_37.all (mapC (callF P S5 10 25)) = true := by decide +kernel
theorem ri_35_ok : ri_35.all (mapC (callF P S5 10 25)) = true := BT.all_nd (by decide +kernel) ri_36_ok ri_37_ok
theorem ri_39_ok : ri_39.all (mapC (callF P S5 10 25)) = true := by decide +kernel
theorem ri_40_ok : ri_40.all (mapC (callF P S5 10 25)) = true := by decide +kernel
theorem ri_38_ok : ri_38.all (mapC (callF P S5 10 25)) = true := BT.all_nd (by decide +kernel) ri_39_ok ri_40_ok
theorem ri_34_ok : ri_34.all (mapC (callF P S5 10 25)) = true := BT.all_nd (by decide +kernel) ri_35_ok ri_38_ok
theorem ri_43_ok : ri_43.all (mapC (callF P S5 10 25)) = true := by decide +kernel
theorem ri_44_ok : ri_44.all (mapC (callF P S5 10 25)) = true := by decide +kernel
theorem ri_42_ok : ri_42.all (mapC (callF P S5 10 25)) = true := BT.all_nd (by decide +kernel) ri_43_ok ri_44_ok
theorem ri_46_ok : ri_46.all (mapC (callF P S5 10 25)) = true := by decide +kernel
theorem ri_47_ok : ri_47.all (mapC (callF P S5 10 25)) = true := by decide +kernel
theorem ri_45_ok : ri_45.all (mapC (callF P S5 10 25)) = true := BT.all_nd (by decide +kernel) ri_46_ok ri_47_ok
theorem ri_41_ok : ri_41.all (mapC (callF P S5 10 25)) = true := BT.all_nd (by decide +kernel) ri_42_ok ri_45_ok
theorem ri_33_ok : ri_33.all (mapC (callF P S5 10 25)) = true := BT.all_nd (by decide +kernel) ri_34_ok ri_41_ok
theorem ri_51_ok : ri_51.all (mapC (callF P S5 10 25)) = true := by decide +kernel
theorem ri_52_ok : ri_52.all (mapC (callF P S5 10 25)) = true := by decide +kernel
theorem ri_50_ok : ri_50.all (mapC (callF P S5 10 25)) = true := BT.all_nd (by decide +kernel) ri_51_ok ri_52_ok
theorem ri_54_ok : ri_54.all (mapC (callF P S5 10 25)) = true := by decide +kernel
theorem ri_55_ok : ri_55.all (mapC (callF P S5 10 25)) = true := by decide +kernel
theorem ri_53_ok : ri_53.all (mapC (callF P S5 10 25)) = true := BT.all_nd (by decide +kernel) ri_54_ok ri_55_ok
theorem ri_49_ok : ri_49.all (mapC (callF P S5 10 25)) = true := BT.all_nd (by decide +kernel) ri_50_ok ri_53_ok
theorem ri_58_ok : ri_58.all (mapC (callF P S5 10 25)) = true := by decide +kernel
theorem ri_59_ok : ri_59.all (mapC (callF P S5 10 25)) = true := by decide +kernel
theorem ri_57_ok : ri_57.all (mapC (callF P S5 10 25)) = true := BT.all_nd (by decide +kernel) ri_58_ok ri_59_ok
theorem ri_61_ok : ri_61.all (mapC (callF P S5 10 25)) = true := by decide +kernel
theorem ri_62_ok : ri_62.all (mapC (callF P S5 10 25)) = true := by decide +kernel
theorem ri_60_ok : ri_60.all (mapC (callF P S5 10 25)) = true := BT.all_nd (by decide +kernel) ri_61_ok ri_62_ok
theorem ri_56_ok : ri_56.all (mapC (callF P S5 10 25)) = true := BT.all_nd (by decide +kernel) ri_57_ok ri_60_ok
theorem ri_48_ok : ri_48.all (mapC (callF P S5 10 25)) = true := BT.all_nd (by decide +kernel) ri_49_ok ri_56_ok
theorem ri_32_ok : ri_32.all (mapC (callF P S5 10 25)) = true := BT.all_nd (by decide +kernel) ri_33_ok ri_48_ok
theorem ri_0_ok : ri_0.all (mapC (callF P S5 10 25)) = true := BT.all_nd (by decide +kernel) ri_1_ok ri_32_ok
end
end K76

set_option Elab.async false
set_option linter.all false
set_option maxRecDepth 100000
set_option maxHeartbeats 0
namespace K76
open Ev
noncomputable section
theorem rq_6_ok : rq_6.all (mapC (callF P S2 10 15)) = true := by decide +kernel
theorem rq_7_ok : rq_7.all (mapC (callF P S2 10 15)) = true := by decide +kernel
theorem rq_5_ok : rq_5.all (mapC (callF P S2 10 15)) = true := BT.all_nd (by decide +kernel) rq_6_ok rq_7_ok
theorem rq_9_ok : rq_9.all (mapC (callF P S2 10 15)) = true := by decide +kernel
theorem rq_10_ok : rq_10.all (mapC (callF P S2 10 15)) = true := by decide +kernel
theorem rq_8_ok : rq_8.all (mapC (callF P S2 10 15)) = true := BT.all_nd (by decide +kernel) rq_9_ok rq_10_ok
theorem rq_4_ok : rq_4.all (mapC (callF P S2 10 15)) = true := BT.all_nd (by decide +kernel) rq_5_ok rq_8_ok
theorem rq_13_ok : rq_13.all (mapC (callF P S2 10 15)) = true := by decide +kernel
theorem rq_14_ok : rq_14.all (mapC (callF P S2 10 15)) = true := by decide +kernel
theorem rq_12_ok : rq_12.all (mapC (callF P S2 10 15)) = true := BT.all_nd (by decide +kernel) rq_13_ok rq_14_ok
theorem rq_16_ok : rq_16.all (mapC (callF P S2 10 15)) = true := by decide +kernel
theorem rq_17_ok : rq_17.all (mapC (callF P S2 10 15)) = true := by decide +kernel
theorem rq_15_ok : rq_15.all (mapC (callF P S2 10 15)) = true := BT.all_nd (by decide +kernel) rq_16_ok rq_17_ok
theorem rq_11_ok : rq_11.all (mapC (callF P S2 10 15)) = true := BT.all_nd (by decide +kernel) rq_12_ok rq_15_ok
theorem rq_3_ok : rq_3.all (mapC (callF P S2 10 15)) = true := BT.all_nd (by decide +kernel) rq_4_ok rq_11_ok
theorem rq_21_ok : rq_21.all (mapC (callF P S2 10 15)) = true := by decide +kernel
theorem rq_22_ok : rq_22.all (mapC (callF P S2 10 15)) = true := by decide +kernel
theorem rq_20_ok : rq_20.all (mapC (callF P S2 10 15)) = true := BT.all_nd (by decide +kernel) rq_21_ok rq_22_ok
theorem rq_24_ok : rq_24.all (mapC (callF P S2 10 15)) = true := by decide +kernel
theorem rq_25_ok : rq_25.all (mapC (callF P S2 10 15)) = true := by decide +kernel
theorem rq_23_ok : rq_23.all (mapC (callF P S2 10 15)) = true := BT.all_nd (by decide +kernel) rq_24_ok rq_25_ok
theorem rq_19_ok : rq_19.all (mapC (callF P S2 10 15)) = true := BT.all_nd (by decide +kernel) rq_20_ok rq_23_ok
theorem rq_28_ok : rq_28.all (mapC (callF P S2 10 15)) = true := by decide +kernel
theorem rq_29_ok : rq_29.all (mapC (callF P S2 10 15)) = true := by decide +kernel
theorem rq_27_ok : rq_27.all (mapC (callF P S2 10 15)) = true := BT.all_nd (by decide +kernel) rq_28_ok rq_29_ok
theorem rq_31_ok : rq_31.all (mapC (callF P S2 10 15)) = true := by decide +kernel
theorem rq_32_ok : rq_32.all (mapC (callF P S2 10 15)) = true := by decide +kernel
theorem rq_30_ok : rq_30.all (mapC (callF P S2 10 15)) = true := BT.all_nd (by decide +kernel) rq_31_ok rq_32_ok
theorem rq_26_ok : rq_26.all (mapC (callF P S2 10 15)) = true := BT.all_nd (by decide +kernel) rq_27_ok rq_30_ok
theorem rq_18_ok : rq_18.all (mapC (callF P S2 10 15)) = true := BT.all_nd (by decide +kernel) rq_19_ok rq_26_ok
theorem rq_2_ok : rq_2.all (mapC (callF P S2 10 15)) = true := BT.all_nd (by decide +kernel) rq_3_ok rq_18_ok
theorem rq_37_ok : rq_37.all (mapC (callF P S2 10 15)) = true := by decide +kernel
theorem rq_38_ok : rq_38.all (mapC (callF P S2 10 15)) = true := by decide +kernel
theorem rq_36_ok : rq_36.all (mapC (callF P S2 10 15)) = true := BT.all_nd (by decide +kernel) rq_37_ok rq_38_ok
theorem rq_40_ok : rq_40.all (mapC (callF P S2 10 15)) = true := by decide +kernel
theorem rq_41_ok : rq_41.all (mapC (callF P S2 10 15)) = true := by decide +kernel
theorem rq_39_ok : rq_39.all (mapC (callF P S2 10 15)) = true := BT.all_nd (by decide +kernel) rq_40_ok rq_41_ok
theorem rq_35_ok : rq_35.all (mapC (callF P S2 10 15)) = true := BT.all_nd (by decide +kernel) rq_36_ok rq_39_ok
theorem rq_44_ok : rq_44.all (mapC (callF P S2 10 15)) = true := by decide +kernel
theorem rq_45_ok : rq_45.all (mapC (callF P S2 10 15)) = true := by decide +kernel
theorem rq_43_ok : rq_43.all (mapC (callF P S2 10 15)) = true := BT.all_nd (by decide +kernel) rq_44_ok rq_45_ok
theorem rq_47_ok : rq_47.all (mapC (callF P S2 10 15)) = true := by decide +kernel
theorem rq_48_ok : rq_48.all (mapC (callF P S2 10 15)) = true := by decide +kernel
theorem rq_46_ok : rq_46.all (mapC (callF P S2 10 15)) = true := BT.all_nd (by decide +kernel) rq_47_ok rq_48_ok
theorem rq_42_ok : rq_42.all (mapC (callF P S2 10 15)) = true := BT.all_nd (by decide +kernel) rq_43_ok rq_46_ok
theorem rq_34_ok : rq_34.all (mapC (callF P S2 10 15)) = true := BT.all_nd (by decide +kernel) rq_35_ok rq_42_ok
theorem rq_52_ok : rq_52.all (mapC (callF P S2 10 15)) = true := by decide +kernel
theorem rq_53_ok : rq_53.all (mapC (callF P S2 10 15)) = true := by decide +kernel
theorem rq_51_ok : rq_51.all (mapC (callF P S2 10 15)) = true := BT.all_nd (by decide +kernel) rq_52_ok rq_53_ok
theorem rq_55_ok : rq_55.all (mapC (callF P S2 10 15)) = true := by decide +kernel
theorem rq_56_ok : rq_56.all (mapC (callF P S2 10 15)) = true := by decide +kernel
theorem rq_54_ok : rq_54.all (mapC (callF P S2 10 15)) = true := BT.all_nd (by decide +kernel) rq_55_ok rq_56_ok
theorem rq_50_ok : rq_50.all (mapC (callF P S2 10 15)) = true := BT.all_nd (by decide +kernel) rq_51_ok rq_54_ok
theorem rq_59_ok : rq_59.all (mapC (callF P S2 10 15)) = true := by decide +kernel
theorem rq_60_ok : rq_60.all (mapC (callF P S2 10 15)) = true := by decide +kernel
theorem rq_58_ok : rq_58.all (mapC (callF P S2 10 15)) = true := BT.all_nd (by decide +kernel) rq_59_ok rq_60_ok
theorem rq_62_ok : rq_62.all (mapC (callF P S2 10 15)) = true := by decide +kernel
theorem rq_63_ok : rq_63.all (mapC (callF P S2 10 15)) = true := by decide +kernel
theorem rq_61_ok : rq_61.all (mapC (callF P S2 10 15)) = true := BT.all_nd (by decide +kernel) rq_62_ok rq_63_ok
theorem rq_57_ok : rq_57.all (mapC (callF P S2 10 15)) = true := BT.all_nd (by decide +kernel) rq_58_ok rq_61_ok
theorem rq_49_ok : rq_49.all (mapC (callF P S2 10 15)) = true := BT.all_nd (by decide +kernel) rq_50_ok rq_57_ok
theorem rq_33_ok : rq_33.all (mapC (callF P S2 10 15)) = true := BT.all_nd (by decide +kernel) rq_34_ok rq_49_ok
theorem rq_1_ok : rq_1.all (mapC (callF P S2 10 15)) = true := BT.all_nd (by decide +kernel) rq_2_ok rq_33_ok
theorem rq_69_ok : rq_69.all (mapC (callF P S2 10 15)) = true := by decide +kernel
theorem rq_70_ok : rq_70.all (mapC (callF P S2 10 15)) = true := by decide +kernel
theorem rq_68_ok : rq_68.all (mapC (callF P S2 10 15)) = true := BT.all_nd (by decide +kernel) rq_69_ok rq_70_ok
theorem rq_72_ok : rq_72.all (mapC (callF P S2 10 15)) = true := by decide +kernel
theorem rq_73_ok : rq_73.all (mapC (callF P S2 10 15)) = true := by decide +kernel
theorem rq_71_ok : rq_71.all (mapC (callF P S2 10 15)) = true := BT.all_nd (by decide +kernel) rq_72_ok rq_73_ok
theorem rq_67_ok : rq_67.all (mapC (callF P S2 10 15)) = true := BT.all_nd (by decide +kernel) rq_68_ok rq_71_ok
theorem rq_76_ok : rq_76.all (mapC (callF P S2 10 15)) = true := by decide +kernel
theorem rq_77_ok : rq_77.all (mapC (callF P S2 10 15)) = true := by decide +kernel
theorem rq_75_ok : rq_75.all (mapC (callF P S2 10 15)) = true := BT.all_nd (by decide +kernel) rq_76_ok rq_77_ok
theorem rq_79_ok : rq_79.all (mapC (callF P S2 10 15)) = true := by decide +kernel
theorem rq_80_ok : rq_80.all (mapC (callF P S2 10 15)) = true := by decide +kernel
theorem rq_78_ok : rq_78.all (mapC (callF P S2 10 15)) = true := BT.all_nd (by decide +kernel) rq_79_ok rq_80_ok
theorem rq_74_ok : rq_74.all (mapC (callF P S2 10 15)) = true := BT.all_nd (by decide +kernel) rq_75_ok rq_78_ok
theorem rq_66_ok : rq_66.all (mapC (callF P S2 10 15)) = true := BT.all_nd (by decide +kernel) rq_67_ok rq_74_ok
theorem rq_84_ok : rq_84.all (mapC (callF P S2 10 15)) = true := by decide +kernel
theorem rq_85_ok : rq_85.all (mapC (callF P S2 10 15)) = true := by decide +kernel
theorem rq_83_ok : rq_83.all (mapC (callF P S2 10 15)) = true := BT.all_nd (by decide +kernel) rq_84_ok rq_85_ok
theorem rq_87_ok : rq_87.all (mapC (callF P S2 10 15)) = true := by decide +kernel
theorem rq_88_ok : rq_88.all (mapC (callF P S2 10 15)) = true := by decide +kernel
theorem rq_86_ok : rq_86.all (mapC (callF P S2 10 15)) = true := BT.all_nd (by decide +kernel) rq_87_ok rq_88_ok
theorem rq_82_ok : rq_82.all (mapC (callF P S2 10 15)) = true := BT.all_nd (by decide +kernel) rq_83_ok rq_86_ok
theorem rq_91_ok : rq_91.all (mapC (callF P S2 10 15)) = true := by decide +kernel
theorem rq_92_ok : rq_92.all (mapC (callF P S2 10 15)) = true := by decide +kernel
theorem rq_90_ok : rq_90.all (mapC (callF P S2 10 15)) = true := BT.all_nd (by decide +kernel) rq_91_ok rq_92_ok
theorem rq_94_ok : rq_94.all (mapC (callF P S2 10 15)) = true := by decide +kernel
theorem rq_95_ok : rq_95.all (mapC (callF P S2 10 15)) = true := by decide +kernel
theorem rq_93_ok : rq_93.all (mapC (callF P S2 10 15)) = true := BT.all_nd (by decide +kernel) rq_94_ok rq_95_ok
theorem rq_89_ok : rq_89.all (mapC (callF P S2 10 15)) = true := BT.all_nd (by decide +kernel) rq_90_ok rq_93_ok
theorem rq_81_ok : rq_81.all (mapC (callF P S2 10 15)) = true := BT.all_nd (by decide +kernel) rq_82_ok rq_89_ok
theorem rq_65_ok : rq_65.all (mapC (callF P S2 10 15)) = true := BT.all_nd (by decide +kernel) rq_66_ok rq_81_ok
theorem rq_100_ok : rq_100.all (mapC (callF P S2 10 15)) = true := by decide +kernel
theorem rq_101_ok : rq_101.all (mapC (callF P S2 10 15)) = true := by decide +kernel
theorem rq_99_ok : rq_99.all (mapC (callF P S2 10 15)) = true := BT.all_nd (by decide +kernel) rq_100_ok rq_101_ok
theorem rq_103_ok : rq_103.all (mapC (callF P S2 10 15)) = true := by decide +kernel
theorem rq_104_ok : rq_104.all (mapC (callF P S2 10 15)) = true := by decide +kernel
theorem rq_102_ok : rq_102.all (mapC (callF P S2 10 15)) = true := BT.all_nd (by decide +kernel) rq_103_ok rq_104_ok
theorem rq_98_ok : rq_98.all (mapC (callF P S2 10 15)) = true := BT.all_nd (by decide +kernel) rq_99_ok rq_102_ok
theorem rq_107_ok : rq_107.all (mapC (callF P S2 10 15)) = true := by decide +kernel
theorem rq_108_ok : rq_108.all (mapC (callF P S2 10 15)) = true := by decide +kernel
theorem rq_106_ok : rq_106.all (mapC (callF P S2 10 15)) = true := BT.all_nd (by decide +kernel) rq_107_ok rq_108_ok
theorem rq_110_ok : rq_110.all (mapC (callF P S2 10 15)) = true := by decide +kernel
theorem rq_111_ok : rq_111.all (mapC (callF P S2 10 15)) = true := by decide +kernel
theorem rq_109_ok : rq_109.all (mapC (callF P S2 10 15)) = true := BT.all_nd (by decide +kernel) rq_110_ok rq_111_ok
theorem rq_105_ok : rq_105.all (mapC (callF P S2 10 15)) = true := BT.all_nd (by decide +kernel) rq_106_ok rq_109_ok
theorem rq_97_ok : rq_97.all (mapC (callF P S2 10 15)) = true := BT.all_nd (by decide +kernel) rq_98_ok rq_105_ok
theorem rq_115_ok : rq_115.all (mapC (callF P S2 10 15)) = true := by decide +kernel
theorem rq_116_ok : rq_116.all (mapC (callF P S2 10 15)) = true := by decide +kernel
theorem rq_114_ok : rq_114.all (mapC (callF P S2 10 15)) = true := BT.all_nd (by decide +kernel) rq_115_ok rq_116_ok
theorem rq_118_ok : rq_118.all (mapC (callF P S2 10 15)) = true := by decide +kernel
theorem rq_119_ok : rq_119.all (mapC (callF P S2 10 15)) = true := by decide +kernel
theorem rq_117_ok : rq_117.all (mapC (callF P S2 10 15)) = true := BT.all_nd (by decide +kernel) rq_118_ok rq_119_ok
theorem rq_113_ok : rq_113.all (mapC (callF P S2 10 15)) = true := BT.all_nd (by decide +kernel) rq_114_ok rq_117_ok
theorem rq_122_ok : rq_122.all (mapC (callF P S2 10 15)) = true := by decide +kernel
theorem rq_123_ok : rq_123.all (mapC (callF P S2 10 15)) = true := by decide +kernel
theorem rq_121_ok : rq_121.all (mapC (callF P S2 10 15)) = true := BT.all_nd (by decide +kernel) rq_122_ok rq_123_ok
theorem rq_125_ok : rq_125.all (mapC (callF P S2 10 15)) = true := by decide +kernel
theorem rq_126_ok : rq_126.all (mapC (callF P S2 10 15)) = true := by decide +kernel
theorem rq_124_ok : rq_124.all (mapC (callF P S2 10 15)) = true := BT.all_nd (by decide +kernel) rq_125_ok rq_126_ok
theorem rq_120_ok : rq_120.all (mapC (callF P S2 10 15)) = true := BT.all_nd (by decide +kernel) rq_121_ok rq_124_ok
theorem rq_112_ok : rq_112.all (mapC (callF P S2 10 15)) = true := BT.all_nd (by decide +kernel) rq_113_ok rq_120_ok
theorem rq_96_ok : rq_96.all (mapC (callF P S2 10 15)) = true := BT.all_nd (by decide +kernel) rq_97_ok rq_112_ok
theorem rq_64_ok : rq_64.all (mapC (callF P S2 10 15)) = true := BT.all_nd (by decide +kernel) rq_65_ok rq_96_ok
theorem rq_0_ok : rq_0.all (mapC (callF P S2 10 15)) = true := BT.all_nd (by decide +kernel) rq_1_ok rq_64_ok
end
end K76

set_option Elab.async false
set_option linter.all false
set_option maxRecDepth 100000
set_option maxHeartbeats 0
namespace K76
open Ev
noncomputable section
theorem rt_ch : isCh 4 rt = true := by decide +kernel
theorem rt3_ch : isCh 168 (br rt 3) = true := by decide +kernel
theorem rt3_0 : allR 0 12 (fun j => chkM [.bl true] (br (br rt 3) j)) = true := by decide +kernel
theorem rt3_1 : allR 12 12 (fun j => chkM [.bl true] (br (br rt 3) j)) = true := by decide +kernel
theorem rt3_2 : allR 24 12 (fun j => chkM [.bl true] (br (br rt 3) j)) = true := by decide +kernel
theorem rt3_3 : allR 36 12 (fun j => chkM [.bl true] (br (br rt 3) j)) = true := by decide +kernel
theorem rt3_4 : allR 48 12 (fun j => chkM [.bl true] (br (br rt 3) j)) = true := by decide +kernel
theorem rt3_5 : allR 60 12 (fun j => chkM [.bl true] (br (br rt 3) j)) = true := by decide +kernel
theorem rt3_6 : allR 72 12 (fun j => chkM [.bl true] (br (br rt 3) j)) = true := by decide +kernel
theorem rt3_7 : allR 84 12 (fun j => chkM [.bl true] (br (br rt 3) j)) = true := by decide +kernel
theorem rt3_8 : allR 96 12 (fun j => chkM [.bl true] (br (br rt 3) j)) = true := by decide +kernel
theorem rt3_9 : allR 108 12 (fun j => chkM [.bl true] (br (br rt 3) j)) = true := by decide +kernel
theorem rt3_10 : allR 120 12 (fun j => chkM [.bl true] (br (br rt 3) j)) = true := by decide +kernel
theorem rt3_11 : allR 132 12 (fun j => chkM [.bl true] (br (br rt 3) j)) = true := by decide +kernel
theorem rt3_12 : allR 144 12 (fun j => chkM [.bl true] (br (br rt 3) j)) = true := by decide +kernel
theorem rt3_13 : allR 156 12 (fun j => chkM [.bl true] (br (br rt 3) j)) = true := by decide +kernel
theorem rt3 : chkM [.bl true] (br rt 3) = true := chkM_split rt3_ch fun i hi => by
  rcases Nat.lt_or_ge i 12 with z | z
  · exact allR_all rt3_0 i (by omega) (by omega)
  rcases Nat.lt_or_ge i 24 with z | z
  · exact allR_all rt3_1 i (by omega) (by omega)
  rcases Nat.lt_or_ge i 36 with z | z
  · exact allR_all rt3_2 i (by omega) (by omega)
  rcases Nat.lt_or_ge i 48 with z | z
  · exact allR_all rt3_3 i (by omega) (by omega)
  rcases Nat.lt_or_ge i 60 with z | z
  · exact allR_all rt3_4 i (by omega) (by omega)
  rcases Nat.lt_or_ge i 72 with z | z
  · exact allR_all rt3_5 i (by omega) (by omega)
  rcases Nat.lt_or_ge i 84 with z | z
  · exact allR_all rt3_6 i (by omega) (by omega)
  rcases Nat.lt_or_ge i 96 with z | z
  · exact allR_all rt3_7 i (by omega) (by omega)
  rcases Nat.lt_or_ge i 108 with z | z
  · exact allR_all rt3_8 i (by omega) (by omega)
  rcases Nat.lt_or_ge i 120 with z | z
  · exact allR_all rt3_9 i (by omega) (by omega)
  rcases Nat.lt_or_ge i 132 with z | z
  · exact allR_all rt3_10 i (by omega) (by omega)
  rcases Nat.lt_or_ge i 144 with z | z
  · exact allR_all rt3_11 i (by omega) (by omega)
  rcases Nat.lt_or_ge i 156 with z | z
  · exact allR_all rt3_12 i (by omega) (by omega)
  exact allR_all rt3_13 i (by omega) (by omega)
theorem rt2_ch : isCh 12 (br rt 2) = true := by decide +kernel
theorem rt2_0 : allR 0 2 (fun j => chkM [.bl true] (br (br rt 2) j)) = true := by decide +kernel
theorem rt2_1 : allR 2 2 (fun j => chkM [.bl true] (br (br rt 2) j)) = true := by decide +kernel
theorem rt2_2 : allR 4 2 (fun j => chkM [.bl true] (br (br rt 2) j)) = true := by decide +kernel
theorem rt2_3 : allR 6 2 (fun j => chkM [.bl true] (br (br rt 2) j)) = true := by decide +kernel
theorem rt2_4 : allR 8 2 (fun j => chkM [.bl true] (br (br rt 2) j)) = true := by decide +kernel
theorem rt2_5 : allR 10 2 (fun j => chkM [.bl true] (br (br rt 2) j)) = true := by decide +kernel
theorem rt2 : chkM [.bl true] (br rt 2) = true := chkM_split rt2_ch fun i hi => by
  rcases Nat.lt_or_ge i 2 with z | z
  · exact allR_all rt2_0 i (by omega) (by omega)
  rcases Nat.lt_or_ge i 4 with z | z
  · exact allR_all rt2_1 i (by omega) (by omega)
  rcases Nat.lt_or_ge i 6 with z | z
  · exact allR_all rt2_2 i (by omega) (by omega)
  rcases Nat.lt_or_ge i 8 with z | z
  · exact allR_all rt2_3 i (by omega) (by omega)
  rcases Nat.lt_or_ge i 10 with z | z
  · exact allR_all rt2_4 i (by omega) (by omega)
  exact allR_all rt2_5 i (by omega) (by omega)
theorem rx0_0_0_ch : isCh 4 (br (br (br rt 0) 0) 0) = true := by decide +kernel
theorem rx0_0_0_0 : chkM [.bl true] (br (br (br (br rt 0) 0) 0) 0) = true := by decide +kernel
theorem rx0_0_0_1 : chkM [.bl true] (br (br (br (br rt 0) 0) 0) 1) = true := by decide +kernel
theorem rx0_0_0_2 : chkM [.bl true] (br (br (br (br rt 0) 0) 0) 2) = true := by decide +kernel
theorem rx0_0_0_3_ch : isCh 168 (br (br (br (br rt 0) 0) 0) 3) = true := by decide +kernel
theorem rx0_0_0_3_0 : allR 0 24 (fun j => chkM [.bl true] (br (br (br (br (br rt 0) 0) 0) 3) j)) = true := by decide +kernel
theorem rx0_0_0_3_1 : allR 24 24 (fun j => chkM [.bl true] (br (br (br (br (br rt 0) 0) 0) 3) j)) = true := by decide +kernel
theorem rx0_0_0_3_2 : allR 48 24 (fun j => chkM [.bl true] (br (br (br (br (br rt 0) 0) 0) 3) j)) = true := by decide +kernel
theorem rx0_0_0_3_3 : allR 72 24 (fun j => chkM [.bl true] (br (br (br (br (br rt 0) 0) 0) 3) j)) = true := by decide +kernel
theorem rx0_0_0_3_4 : allR 96 24 (fun j => chkM [.bl true] (br (br (br (br (br rt 0) 0) 0) 3) j)) = true := by decide +kernel
theorem rx0_0_0_3_5 : allR 120 24 (fun j => chkM [.bl true] (br (br (br (br (br rt 0) 0) 0) 3) j)) = true := by decide +kernel
theorem rx0_0_0_3_6 : allR 144 24 (fun j => chkM [.bl true] (br (br (br (br (br rt 0) 0) 0) 3) j)) = true := by decide +kernel
theorem rx0_0_0_3 : chkM [.bl true] (br (br (br (br rt 0) 0) 0) 3) = true := chkM_split rx0_0_0_3_ch fun i hi => by
  rcases Nat.lt_or_ge i 24 with z | z
  · exact allR_all rx0_0_0_3_0 i (by omega) (by omega)
  rcases Nat.lt_or_ge i 48 with z | z
  · exact allR_all rx0_0_0_3_1 i (by omega) (by omega)
  rcases Nat.lt_or_ge i 72 with z | z
  · exact allR_all rx0_0_0_3_2 i (by omega) (by omega)
  rcases Nat.lt_or_ge i 96 with z | z
  · exact allR_all rx0_0_0_3_3 i (by omega) (by omega)
  rcases Nat.lt_or_ge i 120 with z | z
  · exact allR_all rx0_0_0_3_4 i (by omega) (by omega)
  rcases Nat.lt_or_ge i 144 with z | z
  · exact allR_all rx0_0_0_3_5 i (by omega) (by omega)
  exact allR_all rx0_0_0_3_6 i (by omega) (by omega)
theorem rx0_0_0 : chkM [.bl true] (br (br (br rt 0) 0) 0) = true := chkM_split rx0_0_0_ch fun i hi => by
  rcases (show i = 0 ∨ i = 1 ∨ i = 2 ∨ i = 3 by omega) with rfl | rfl | rfl | rfl
  · exact rx0_0_0_0
  · exact rx0_0_0_1
  · exact rx0_0_0_2
  · exact rx0_0_0_3
theorem rx0_0_ch : isCh 4 (br (br rt 0) 0) = true := by decide +kernel
theorem rx0_0_1 : chkM [.bl true] (br (br (br rt 0) 0) 1) = true := by decide +kernel
theorem rx0_0_2 : chkM [.bl true] (br (br (br rt 0) 0) 2) = true := by decide +kernel
theorem rx0_0_3 : chkM [.bl true] (br (br (br rt 0) 0) 3) = true := by decide +kernel
theorem rx0_0 : chkM [.bl true] (br (br rt 0) 0) = true := chkM_split rx0_0_ch fun i hi => by
  rcases (show i = 0 ∨ i = 1 ∨ i = 2 ∨ i = 3 by omega) with rfl | rfl | rfl | rfl
  · exact rx0_0_0
  · exact rx0_0_1
  · exact rx0_0_2
  · exact rx0_0_3
theorem rt0_ch : isCh 1 (br rt 0) = true := by decide +kernel
theorem rt0 : chkM [.bl true] (br rt 0) = true := chkM_split rt0_ch fun i hi => by
  obtain rfl : i = 0 := by omega
  exact rx0_0
theorem rx1_0_0_ch : isCh 4 (br (br (br rt 1) 0) 0) = true := by decide +kernel
theorem rx1_0_0_0 : chkM [.bl true] (br (br (br (br rt 1) 0) 0) 0) = true := by decide +kernel
theorem rx1_0_0_1 : chkM [.bl true] (br (br (br (br rt 1) 0) 0) 1) = true := by decide +kernel
theorem rx1_0_0_2 : chkM [.bl true] (br (br (br (br rt 1) 0) 0) 2) = true := by decide +kernel
theorem rx1_0_0_3_ch : isCh 168 (br (br (br (br rt 1) 0) 0) 3) = true := by decide +kernel
theorem rx1_0_0_3_0 : allR 0 24 (fun j => chkM [.bl true] (br (br (br (br (br rt 1) 0) 0) 3) j)) = true := by decide +kernel
theorem rx1_0_0_3_1 : allR 24 24 (fun j => chkM [.bl true] (br (br (br (br (br rt 1) 0) 0) 3) j)) = true := by decide +kernel
theorem rx1_0_0_3_2 : allR 48 24 (fun j => chkM [.bl true] (br (br (br (br (br rt 1) 0) 0) 3) j)) = true := by decide +kernel
theorem rx1_0_0_3_3 : allR 72 24 (fun j => chkM [.bl true] (br (br (br (br (br rt 1) 0) 0) 3) j)) = true := by decide +kernel
theorem rx1_0_0_3_4 : allR 96 24 (fun j => chkM [.bl true] (br (br (br (br (br rt 1) 0) 0) 3) j)) = true := by decide +kernel
theorem rx1_0_0_3_5 : allR 120 24 (fun j => chkM [.bl true] (br (br (br (br (br rt 1) 0) 0) 3) j)) = true := by decide +kernel
theorem rx1_0_0_3_6 : allR 144 24 (fun j => chkM [.bl true] (br (br (br (br (br rt 1) 0) 0) 3) j)) = true := by decide +kernel
theorem rx1_0_0_3 : chkM [.bl true] (br (br (br (br rt 1) 0) 0) 3) = true := chkM_split rx1_0_0_3_ch fun i hi => by
  rcases Nat.lt_or_ge i 24 with z | z
  · exact allR_all rx1_0_0_3_0 i (by omega) (by omega)
  rcases Nat.lt_or_ge i 48 with z | z
  · exact allR_all rx1_0_0_3_1 i (by omega) (by omega)
  rcases Nat.lt_or_ge i 72 with z | z
  · exact allR_all rx1_0_0_3_2 i (by omega) (by omega)
  rcases Nat.lt_or_ge i 96 with z | z
  · exact allR_all rx1_0_0_3_3 i (by omega) (by omega)
  rcases Nat.lt_or_ge i 120 with z | z
  · exact allR_all rx1_0_0_3_4 i (by omega) (by omega)
  rcases Nat.lt_or_ge i 144 with z | z
  · exact allR_all rx1_0_0_3_5 i (by omega) (by omega)
  exact allR_all rx1_0_0_3_6 i (by omega) (by omega)
theorem rx1_0_0 : chkM [.bl true] (br (br (br rt 1) 0) 0) = true := chkM_split rx1_0_0_ch fun i hi => by
  rcases (show i = 0 ∨ i = 1 ∨ i = 2 ∨ i = 3 by omega) with rfl | rfl | rfl | rfl
  · exact rx1_0_0_0
  · exact rx1_0_0_1
  · exact rx1_0_0_2
  · exact rx1_0_0_3
theorem rx1_0_ch : isCh 4 (br (br rt 1) 0) = true := by decide +kernel
theorem rx1_0_1 : chkM [.bl true] (br (br (br rt 1) 0) 1) = true := by decide +kernel
theorem rx1_0_2 : chkM [.bl true] (br (br (br rt 1) 0) 2) = true := by decide +kernel
theorem rx1_0_3 : chkM [.bl true] (br (br (br rt 1) 0) 3) = true := by decide +kernel
theorem rx1_0 : chkM [.bl true] (br (br rt 1) 0) = true := chkM_split rx1_0_ch fun i hi => by
  rcases (show i = 0 ∨ i = 1 ∨ i = 2 ∨ i = 3 by omega) with rfl | rfl | rfl | rfl
  · exact rx1_0_0
  · exact rx1_0_1
  · exact rx1_0_2
  · exact rx1_0_3
theorem rx1_1_0_ch : isCh 4 (br (br (br rt 1) 1) 0) = true := by decide +kernel
theorem rx1_1_0_0 : chkM [.bl true] (br (br (br (br rt 1) 1) 0) 0) = true := by decide +kernel
theorem rx1_1_0_1 : chkM [.bl true] (br (br (br (br rt 1) 1) 0) 1) = true := by decide +kernel
theorem rx1_1_0_2 : chkM [.bl true] (br (br (br (br rt 1) 1) 0) 2) = true := by decide +kernel
theorem rx1_1_0_3_ch : isCh 168 (br (br (br (br rt 1) 1) 0) 3) = true := by decide +kernel
theorem rx1_1_0_3_0 : allR 0 24 (fun j => chkM [.bl true] (br (br (br (br (br rt 1) 1) 0) 3) j)) = true := by decide +kernel
theorem rx1_1_0_3_1 : allR 24 24 (fun j => chkM [.bl true] (br (br (br (br (br rt 1) 1) 0) 3) j)) = true := by decide +kernel
theorem rx1_1_0_3_2 : allR 48 24 (fun j => chkM [.bl true] (br (br (br (br (br rt 1) 1) 0) 3) j)) = true := by decide +kernel
theorem rx1_1_0_3_3 : allR 72 24 (fun j => chkM [.bl true] (br (br (br (br (br rt 1) 1) 0) 3) j)) = true := by decide +kernel
theorem rx1_1_0_3_4 : allR 96 24 (fun j => chkM [.bl true] (br (br (br (br (br rt 1) 1) 0) 3) j)) = true := by decide +kernel
theorem rx1_1_0_3_5 : allR 120 24 (fun j => chkM [.bl true] (br (br (br (br (br rt 1) 1) 0) 3) j)) = true := by decide +kernel
theorem rx1_1_0_3_6 : allR 144 24 (fun j => chkM [.bl true] (br (br (br (br (br rt 1) 1) 0) 3) j)) = true := by decide +kernel
theorem rx1_1_0_3 : chkM [.bl true] (br (br (br (br rt 1) 1) 0) 3) = true := chkM_split rx1_1_0_3_ch fun i hi => by
  rcases Nat.lt_or_ge i 24 with z | z
  · exact allR_all rx1_1_0_3_0 i (by omega) (by omega)
  rcases Nat.lt_or_ge i 48 with z | z
  · exact allR_all rx1_1_0_3_1 i (by omega) (by omega)
  rcases Nat.lt_or_ge i 72 with z | z
  · exact allR_all rx1_1_0_3_2 i (by omega) (by omega)
  rcases Nat.lt_or_ge i 96 with z | z
  · exact allR_all rx1_1_0_3_3 i (by omega) (by omega)
  rcases Nat.lt_or_ge i 120 with z | z
  · exact allR_all rx1_1_0_3_4 i (by omega) (by omega)
  rcases Nat.lt_or_ge i 144 with z | z
  · exact allR_all rx1_1_0_3_5 i (by omega) (by omega)
  exact allR_all rx1_1_0_3_6 i (by omega) (by omega)
theorem rx1_1_0 : chkM [.bl true] (br (br (br rt 1) 1) 0) = true := chkM_split rx1_1_0_ch fun i hi => by
  rcases (show i = 0 ∨ i = 1 ∨ i = 2 ∨ i = 3 by omega) with rfl | rfl | rfl | rfl
  · exact rx1_1_0_0
  · exact rx1_1_0_1
  · exact rx1_1_0_2
  · exact rx1_1_0_3
theorem rx1_1_ch : isCh 4 (br (br rt 1) 1) = true := by decide +kernel
theorem rx1_1_1 : chkM [.bl true] (br (br (br rt 1) 1) 1) = true := by decide +kernel
theorem rx1_1_2 : chkM [.bl true] (br (br (br rt 1) 1) 2) = true := by decide +kernel
theorem rx1_1_3 : chkM [.bl true] (br (br (br rt 1) 1) 3) = true := by decide +kernel
theorem rx1_1 : chkM [.bl true] (br (br rt 1) 1) = true := chkM_split rx1_1_ch fun i hi => by
  rcases (show i = 0 ∨ i = 1 ∨ i = 2 ∨ i = 3 by omega) with rfl | rfl | rfl | rfl
  · exact rx1_1_0
  · exact rx1_1_1
  · exact rx1_1_2
  · exact rx1_1_3
theorem rt1_ch : isCh 2 (br rt 1) = true := by decide +kernel
theorem rt1 : chkM [.bl true] (br rt 1) = true := chkM_split rt1_ch fun i hi => by
  rcases (show i = 0 ∨ i = 1 by omega) with rfl | rfl
  · exact rx1_0
  · exact rx1_1
theorem rightB : chkM [.bl true] rt = true := chkM_split rt_ch fun i hi => by
  rcases (show i = 0 ∨ i = 1 ∨ i = 2 ∨ i = 3 by omega) with rfl | rfl | rfl | rfl
  · exact rt0
  · exact rt1
  · exact rt2
  · exact rt3
end
end K76

set_option Elab.async false
set_option linter.all false
set_option maxRecDepth 100000
set_option maxHeartbeats 1000000
namespace K76
open PySem PySem.Spec PyProof.Rows L2 Ev
noncomputable section
theorem prog_eq : prog = pg.es.map Ent.fn := by kernel_rfl
theorem ck : chkPgm pg = true := by decide +kernel
theorem atP : ∀ (g : Nat) (e : Ent), pg.es[g]? = some e → P g = some e.fn := prog_at2 57 (by kernel_rfl) prog_eq
def rightT : List (List PV × List PV) := [([], [.bl true])]
def S7 : Nat → Option Ev.Spec := upS S6 55 (genS rightT)
def S8 : Nat → Option Ev.Spec := upS S7 36 diceS
abbrev lvl : Nat := 78
theorem holds8 {Pr : Program} {w : World} {K : PySem.W.Frag} {mg : Str → Option Value} {base : Heap} {fdOf : Nat → FuncData} (st : Stands pg K mg fdOf) : Hold Pr w K mg base pg fdOf 64 S8 := by
  have h1 : Hold Pr w K mg base pg fdOf 1 S1 := Hold.nil.add atP ck st 1 37 rollS fun ws H Q E => roll_ok (cf := callF P noS 1 37) (fun i j l n a b => roll_run (callF P noS 0) i j l n a b) ws H Q E
  have h2 : Hold Pr w K mg base pg fdOf 11 S2 := h1.add atP ck st 10 48 (genS cyTab) fun ws H Q E => gen_ok cy_clean (by
    intro p hp
    rcases List.mem_cons.mp hp with rfl | hp
    · exact cy1
    rcases List.mem_cons.mp hp with rfl | hp
    · exact cy2
    rcases List.mem_cons.mp hp with rfl | hp
    · exact cy3
    rcases List.mem_cons.mp hp with rfl | hp
    · exact cy4
    · cases hp) ws H Q E
  have h3 : Hold Pr w K mg base pg fdOf 21 S3 := h2.add atP ck st 10 15 (mapS rq) fun ws H Q E => map_ok rq_0_ok ws H Q E
  have h4 : Hold Pr w K mg base pg fdOf 31 S4 := h3.add atP ck st 10 51 (mapS cq) fun ws H Q E => map_ok cq_0_ok ws H Q E
  have h5 : Hold Pr w K mg base pg fdOf 41 S5 := h4.add atP ck st 10 53 (mapS lo) fun ws H Q E => map_ok lo_0_ok ws H Q E
  have h6 : Hold Pr w K mg base pg fdOf 51 S6 := h5.add atP ck st 10 25 (mapS ri) fun ws H Q E => map_ok ri_0_ok ws H Q E
  have h7 : Hold Pr w K mg base pg fdOf 63 S7 := h6.add atP ck st 12 55 (genS rightT) fun ws H Q E => gen_ok (by decide +kernel) (by
    intro p hp
    rcases List.mem_cons.mp hp with rfl | hp
    · exact rightB
    · cases hp) ws H Q E
  exact h7.add atP ck st 1 36 diceS fun ws H Q E => dice_ok (cf := callF P S7 1 36) (fun M s xs k a b => dice_run (callF P S7 0) M s xs k a b) ws H Q E
def answer (xs : List PV) : Bool := isT (callF P S8 14 56 [.ref 0] [.ro xs])
theorem ans0 : answer [] = true := by kernel_rfl
theorem ans1 (a : Int) : answer [.int a] = true := by kernel_rfl
theorem ans2 (a b : Int) : answer [.int a, .int b] = true := by kernel_rfl
theorem ans3 (a b c : Int) : answer [.int a, .int b, .int c] = true := by kernel_rfl
theorem ans4 (a b c d : Int) : answer [.int a, .int b, .int c, .int d] = true := by kernel_rfl
theorem ans5 (a b c d e : Int) (r : List PV) : answer (.int a :: .int b :: .int c :: .int d :: .int e :: r) = true := by kernel_rfl
theorem law_true : ∀ ns : List Int, answer (ns.map .int) = true
  | [] => ans0
  | [a] => ans1 a
  | [a, b] => ans2 a b
  | [a, b, c] => ans3 a b c
  | [a, b, c, d] => ans4 a b c d
  | a :: b :: c :: d :: e :: r => ans5 a b c d e (r.map .int)
end
theorem fin {K : PySem.W.Frag} {w : World} {h : Heap} {mg : Str → Option Value} {fa : Addr} (KX : K.In h) (G : h.Ns mainGlobals mg) (hmg : mg ("law" : Str) = some (.ref fa)) (c : He.SaysD pg.fa pg.fn K) :
    ∃ (K : PySem.W.Frag) (fd : FuncData) (sp : L2.Sp), K.In h ∧ (∀ (s : Shared) (u : Value), BindsTo s fd ⟨[u], []⟩ [("script", u)]) ∧
      (∀ (H : Hp) (a : Addr) (ns : List Int), ns.length ≤ 63 → SqF K H a (ns.map V.int) → sp [.ref a] H (fun v _ => v = .bl true) fun _ _ _ => False) ∧ ∀ base : Heap, K.In base → base.Ns mainGlobals mg → FnG PySem.Challenge.rw_thingturns_k76_whole_retracted_tables.prog w K mg base noCX lvl fa fd ["script"] sp := by
  obtain ⟨fdOf, st⟩ := stands_of KX G c ck
  have e56 : pg.es[56]? = some e_law := rfl
  have D := st.def_ 56 e_law e56
  obtain ⟨e', he', hm⟩ := st.glo "law" 56 (by decide +kernel)
  rw [e56] at he'
  cases he'
  have ea : fa = He.fAd K e_law.d.at_ := by
    rw [hmg] at hm
    cases hm
    rfl
  subst ea
  have pl : plainPs e_law.d.params ["script"] = true := by decide +kernel
  refine ⟨K, fdOf 56, spF K noRX (callF P S8 14 56), KX, fun s u => FunD.bindsA (ps := ["script"]) D (fun _ _ _ _ _ _ us hl => bind_plain pl hl) s [u] rfl, fun H a ns _ hS => ?_, fun base _ _ => ?_⟩
  · exact law_sp (isT_ok (law_true ns)) hS
  · exact (holds8 st).all atP ck st 14 56 e_law e56
end K76

set_option Elab.async false
set_option linter.all false
set_option maxRecDepth 100000
set_option maxHeartbeats 0
/-! K76h: the head, the end. Written by genh.py. -/
namespace K76
open PySem PySem.Spec PyProof.Rows L2 Ev
def loose0 : List Str := ["TurnError", "InvalidTable", "InvalidOperation", "TooMany", "PAIR_SIZE", "is_whole", "is_within", "is_pair", "key_kind", "sorted_keys", "copied", "is_row_of", "MOST_THINGS", "is_map_in", "is_table_in", "rows_in", "require_table", "does_cycle", "doubled_in", "first_cycle_bar", "is_cycle_table_in", "require_cycle_table", "piece_from", "pieces_in"]
def loose1 : List Str := ["parting_by_keys", "count_classes", "first_things", "factor_in", "WHOLE", "FALLING", "row_pieces_in", "whole_answer_in", "like_parting_in", "retracted_in", "retractions_in", "level_in", "beside_rows", "require_few", "whole_answer", "like_parting", "retracted", "retraction_sizes", "level", "cycles_beside", "_law_dice", "_law_roll", "_law_pick", "_law_mixed"]
def loose2 : List Str := ["_law_ascending", "_law_back", "_law_by", "_law_table", "_law_named", "_law_parting_of", "_law_read", "_law_cycle_texts", "_law_cycle_table", "_law_rows", "_law_pt_table", "_law_cy_is", "_law_cy_parting", "_law_once", "_law_sizes", "_law_right"]
def loose : List Str := loose0 ++ loose1 ++ loose2
abbrev R : PySem.W.OpenRow := PySem.W.OpenLaw.row PySem.Challenge.rw_thingturns_k76_whole_retracted_tables
abbrev hk : PySem.W.Hook := He.hookD 4 pg.fa pg.fn
def ob (s : PySem.W.SharedT) : He.AlD := He.obsDG 4 pg.fa pg.fn (HandSHeadRun.getT s)
theorem ob_eq (s : PySem.W.SharedT) : ob s = hk.obs s.abs := He.obsDG_eq (HandSHeadRun.getT_eq s)
theorem headRun (w : World) : HandSHeadRun.RunEq R (PySem.W.view R.prog [72]) hk ob 3500 loose w := by
  intro os
  kernel_rfl
end K76

set_option Elab.async false
set_option linter.all false
set_option maxRecDepth 100000
set_option maxHeartbeats 0
open PySem PySem.W PySem.Calls PyProof.Rows
theorem PySem.Challenge.cw_thingturns_k76_whole_retracted_tables_holds : PySem.Challenge.rw_thingturns_k76_whole_retracted_tables.Holds := by
  w_on; o_law
  refine HandSHeadRun.head_any (r := OpenLaw.row PySem.Challenge.rw_thingturns_k76_whole_retracted_tables) (q := view (OpenLaw.row PySem.Challenge.rw_thingturns_k76_whole_retracted_tables).prog [72]) (H := K76.hk) (ob := K76.ob) (M := 3500) (loose := K76.loose) (d := HandSHeadRun.topDef (OpenLaw.row PySem.Challenge.rw_thingturns_k76_whole_retracted_tables).prog 72) (kwd := []) K76.ob_eq
    (by kernel_rfl) (fun s => by kernel_rfl) K76.headRun (by kernel_rfl) (by kernel_rfl) (by kernel_rfl) (by rfl) (by first | assumption | decide +kernel) (by decide +kernel) ⟨rfl, rfl, rfl, rfl, rfl, by decide +kernel⟩ ?hw ?hc
  case hw => w_witness2
  case hc =>
    refine Ev.walk_G (l := PySem.Challenge.rw_thingturns_k76_whole_retracted_tables) (n := 63) (k := K76.lvl) (x := "script") (CX := Ev.noCX) rfl (by decide) (by kernel_rfl) ⟨rfl, by decide, by decide⟩ ?F (fun _ _ _ _ z => z)
    intro w mg fa h Y G hmg0
    obtain ⟨K, KX, c⟩ := Y
    have hmg : mg ("law" : PySem.Str) = some (.ref fa) := by
      have e : (HandSHeadRun.topDef (OpenLaw.row PySem.Challenge.rw_thingturns_k76_whole_retracted_tables).prog 72).name = ("law" : PySem.Str) := by kernel_rfl
      rw [← e]
      exact hmg0
    exact K76.fin KX G hmg c
