import PyProof.Rows.All
import Wide.All
import OpenK.AllK
import Wide.FinOn
import PySem.Str
import PySem.Sem
import PyProof.ReprReads
import HandS.ForMost
import HandS.ForExc
import HandS.SetKeys
import PyProof.SeqIndex
import PyProof.P3In
import HandS.Deep
import HandS.Wide
import HandS.TupMul
import HandS.Style
import HandS.TupAny
import HandS.TryMany
import HandS.IsInst
import KE.DataCmp
import KE.DataMinMax
import KE.SortData
import PyProof.ReprRoads
import HandS.Rev
import HandS.Iter
import KE.KRevSl
import HandS.More
import HandS.Zip
import HandS.Star
import KE.GoesMore
import HandS.ExcOwn
import HandS.TryOnly
import HandS.Conv
import HandS.SetBool
import HandS.SortKw
import HandS.ExcField
import HandS.Small
import HandS.ExcInit
import HandS.HeadWalk
import HandS.HeadHook2
import HandS.EndBits
import HandS.Head0
import HandS.Head1
import HandS.Head2
import HandS.HeadEnd
import PyProof.TableCode
import PySem.Challenge.RW_relywide_k13_told_frames_and_what_they_j
set_option Elab.async false
set_option linter.all false
set_option maxRecDepth 100000
/-! L0: plain data, a small program form, what it computes. -/
namespace Rw
open PySem (Str)

/-- data: tuples and lists as trees; `lst`, `dct`, `set` never change any more; `ref n` is the cell n of the heap -/
inductive D where
  | non | bl (b : Bool) | int (i : Int) | str (s : Str) | tup (xs : List D) | lst (xs : List D) | dct (ks vs : List D) | set (xs : List D) | ref (n : Nat)

/-- a cell of the heap: a list or a dict that may be shared and changed, an instance -/
inductive Cell where
  | lst (xs : List D) | dct (ks vs : List D) | ins (c : Nat) (fs : List (Str × D))
abbrev Hp := List Cell
/-- a slot: own means that the list or dict is nobody else's -/
structure Sl where
  d : D
  own : Bool
abbrev Env := List (Option Sl)
structure Exn where
  cls : Nat
  fs : List (Str × D)

inductive R (α : Type) where
  | ok (a : α) | exn (x : Exn) (h : Hp) | bad
def R.bind {α β : Type} : R α → (α → R β) → R β
  | .ok a, f => f a
  | .exn x h, _ => .exn x h
  | .bad, _ => .bad
@[simp] theorem R.bind_ok {α β : Type} (a : α) (f : α → R β) : (R.ok a).bind f = f a := rfl
@[simp] theorem R.bind_bad {α β : Type} (f : α → R β) : (R.bad : R α).bind f = .bad := rfl
@[simp] theorem R.bind_exn {α β : Type} (x : Exn) (h : Hp) (f : α → R β) : (R.exn x h : R α).bind f = .exn x h := rfl
/-- no error may come out -/
def R.nox {α : Type} : R α → R α
  | .ok a => .ok a
  | _ => .bad
@[simp] theorem R.nox_ok {α : Type} (a : α) : (R.ok a).nox = .ok a := rfl
@[simp] theorem R.nox_bad {α : Type} : (R.bad : R α).nox = .bad := rfl
def R.of {α : Type} : Option α → R α
  | some a => .ok a
  | none => .bad
@[simp] theorem R.of_some {α : Type} (a : α) : R.of (some a) = .ok a := rfl
@[simp] theorem R.of_none {α : Type} : R.of (none : Option α) = .bad := rfl
/-- a value, fresh or not, the heap -/
abbrev RV := R (D × Bool × Hp)

/-! ### equality, order -/
mutual
def eqv : D → D → Bool
  | .non, .non => true
  | .bl a, .bl b => a == b
  | .bl a, .int j => (if a then 1 else 0) == j
  | .int i, .bl b => i == (if b then 1 else 0)
  | .int i, .int j => i == j
  | .str x, .str y => x == y
  | .tup xs, .tup ys => eqvs xs ys
  | .lst xs, .lst ys => eqvs xs ys
  | _, _ => false
def eqvs : List D → List D → Bool
  | [], [] => true
  | x :: xs, y :: ys => eqv x y && eqvs xs ys
  | _, _ => false
end
mutual
/-- plain data, at most n deep -/
def sh : Nat → D → Bool
  | _, .non => true
  | _, .bl _ => true
  | _, .int _ => true
  | _, .str x => x.cps.all (· < 0x110000)
  | 0, .tup _ => false
  | 0, .lst _ => false
  | n + 1, .tup xs => shs n xs
  | n + 1, .lst xs => shs n xs
  | _, _ => false
def shs : Nat → List D → Bool
  | _, [] => true
  | n, x :: xs => sh n x && shs n xs
end
abbrev shp (d : D) : Bool := sh 60 d
def eqD (a b : D) : Option Bool := if shp a && shp b then some (eqv a b) else none
mutual
/-- same kinds all through -/
def alike : D → D → Bool
  | .bl _, .bl _ => true
  | .int _, .int _ => true
  | .str _, .str _ => true
  | .tup xs, .tup ys => alikes xs ys
  | _, _ => false
def alikes : List D → List D → Bool
  | [], [] => true
  | [], _ :: _ => true
  | _ :: _, [] => true
  | x :: xs, y :: ys => alike x y && alikes xs ys
end
mutual
def ltv : D → D → Bool
  | .bl a, .bl b => !a && b
  | .int i, .int j => decide (i < j)
  | .str x, .str y => decide (x.cps.toList < y.cps.toList)
  | .tup xs, .tup ys => ltvs xs ys
  | _, _ => false
def ltvs : List D → List D → Bool
  | _, [] => false
  | [], _ :: _ => true
  | x :: xs, y :: ys => if eqv x y then ltvs xs ys else ltv x y
end
def ltD (a b : D) : Option Bool := if shp a && shp b && alike a b then some (ltv a b) else none
/-- stable sorting by putting in -/
def putIn (x : D) : List D → List D
  | [] => [x]
  | y :: ys => if ltv y x then y :: putIn x ys else x :: y :: ys
def sortD : List D → List D
  | [] => []
  | x :: xs => putIn x (sortD xs)

/-! ### sequences -/
def listOf (h : Hp) : D → Option (List D)
  | .lst xs => some xs
  | .ref n => match h[n]? with
    | some (.lst xs) => some xs
    | _ => none
  | _ => none
def seqOf (h : Hp) : D → Option (List D)
  | .tup xs => some xs
  | d => listOf h d
def dictOf (h : Hp) : D → Option (List D × List D)
  | .dct ks vs => some (ks, vs)
  | .ref n => match h[n]? with
    | some (.dct ks vs) => some (ks, vs)
    | _ => none
  | _ => none
def ixOf (n : Nat) (i : Int) : Option Nat := if 0 ≤ i then (if i < n then some i.toNat else none) else if -(n : Int) ≤ i then some (i + n).toNat else none
def cutIx (n d : Nat) : Option Int → Nat
  | none => d
  | some i => if i < 0 then (max (i + n) 0).toNat else (min i n).toNat
def cut (xs : List D) (lo hi : Option Int) : List D := (xs.drop (cutIx xs.length 0 lo)).take (cutIx xs.length xs.length hi - cutIx xs.length 0 lo)
def rng (lo : Int) (n : Nat) : List D := (List.range n).map fun (i : Nat) => D.int (lo + i)
def maxLen : Nat := 100000
def intsOf : List D → Option (List Int)
  | [] => some []
  | .int i :: r => (intsOf r).map (i :: ·)
  | _ => none
def boolsOf : List D → Option (List Bool)
  | [] => some []
  | .bl i :: r => (boolsOf r).map (i :: ·)
  | _ => none

/-! ### numbers -/
def bits (i : Int) : Nat := i.natAbs.log2
def mulOk (i j : Int) : Bool := decide (i.natAbs < 2 ^ 64) || decide (j.natAbs < 2 ^ 64) || decide (bits i + bits j < 1000000)
def divOk (j : Int) : Bool := j != 0 && (decide (j.natAbs < 1073741824) || (decide (0 < j) && decide (bits j < 9000)))
def powOk (i j : Int) : Bool := decide (0 ≤ j) && decide (j ≤ 1000000) && decide (i.natAbs < 2 ^ 64)

inductive Op where
  | add | sub | mul | fdiv | mod | pow | shl | shr
inductive Cm where
  | eq | ne | lt | le | gt | ge | is_ | isnt | in_ | notin
inductive Blt where
  | len | abs | int | max1 | max2 | min1 | min2 | sum | all | any | sorted | list | tuple | set | str | repr | isi (ts : List Nat)
inductive Mt where
  | index | count | get1 | get2 | pop0 | pop1 | append | extend | insert | clear | setdef | remove

def addL (a b : D) (h : Hp) : RV :=
  match listOf h a, listOf h b with
    | some xs, some ys => if xs.length + ys.length ≤ maxLen then .ok (.lst (xs ++ ys), true, h) else .bad
    | _, _ => .bad
def evOp (o : Op) (a b : D) (h : Hp) : RV :=
  match o, a, b with
  | .add, .int i, .int j => .ok (.int (i + j), false, h)
  | .add, .str x, .str y => if x.cps.size + y.cps.size ≤ maxLen then .ok (.str ⟨x.cps ++ y.cps⟩, false, h) else .bad
  | .add, .tup xs, .tup ys => if xs.length + ys.length ≤ maxLen then .ok (.tup (xs ++ ys), false, h) else .bad
  | .add, a, b => addL a b h
  | .sub, .int i, .int j => .ok (.int (i - j), false, h)
  | .mul, .int i, .int j => if mulOk i j then .ok (.int (i * j), false, h) else .bad
  | .fdiv, .int i, .int j => if divOk j then .ok (.int (i.fdiv j), false, h) else .bad
  | .mod, .int i, .int j => if j == 0 then .bad else .ok (.int (i.fmod j), false, h)
  | .pow, .int i, .int j => if powOk i j then .ok (.int (i ^ j.toNat), false, h) else .bad
  | .shl, .int i, .int j => if powOk i j then .ok (.int (i * 2 ^ j.toNat), false, h) else .bad
  | .shr, .int i, .int j => if decide (0 ≤ j) then .ok (.int (i / 2 ^ j.toNat), false, h) else .bad
  | _, _, _ => .bad

/-- a key: an int, a text, or a plain tuple of such -/
def keyOk (d : D) : Bool := match d with
  | .int _ => true
  | .str _ => true
  | _ => false
/-- x == one of these, all of them plain -/
def inAny (x : D) (xs : List D) : Option Bool := if shp x && xs.all shp then some (xs.any fun y => eqv y x) else none
def isNone : D → Bool
  | .non => true
  | _ => false
def evIn (x c : D) (h : Hp) : Option Bool :=
  match c with
  | .set xs => if keyOk x then inAny x xs else none
  | c => match seqOf h c with
    | some xs => inAny x xs
    | none => match dictOf h c with
      | some (ks, _) => if keyOk x then inAny x ks else none
      | none => none
def evCm (o : Cm) (a b : D) (h : Hp) : Option Bool :=
  match o with
  | .eq => eqD a b
  | .ne => (eqD a b).map (!·)
  | .lt => match a, b with
    | .int i, .int j => some (decide (i < j))
    | _, _ => ltD a b
  | .le => match a, b with
    | .int i, .int j => some (decide (i ≤ j))
    | _, _ => none
  | .gt => match a, b with
    | .int i, .int j => some (decide (j < i))
    | _, _ => none
  | .ge => match a, b with
    | .int i, .int j => some (decide (j ≤ i))
    | _, _ => none
  | .is_ => match b with
    | .non => some (isNone a)
    | .bl k => match a with
      | .bl j => some (j == k)
      | _ => none
    | _ => none
  | .isnt => match b with
    | .non => some (!isNone a)
    | .bl k => match a with
      | .bl j => some (j != k)
      | _ => none
    | _ => none
  | .in_ => evIn a b h
  | .notin => (evIn a b h).map (!·)

mutual
def toPy : D → Option PySem.PyData
  | .non => some .none
  | .bl b => some (.bool b)
  | .int i => some (.int i)
  | .str x => some (.str x)
  | .tup xs => (toPys xs).map .tuple
  | .lst xs => (toPys xs).map .list
  | .dct ks vs => match toPys ks, toPys vs with
    | some a, some b => if a.length == b.length then some (.dict (a.zip b)) else none
    | _, _ => none
  | _ => none
def toPys : List D → Option (List PySem.PyData)
  | [] => some []
  | x :: xs => match toPy x, toPys xs with
    | some a, some b => some (a :: b)
    | _, _ => none
end
/-- a cell's content in the place of its number -/
def deref (h : Hp) : D → D
  | .ref n => match h[n]? with
    | some (.lst xs) => .lst xs
    | some (.dct ks vs) => .dct ks vs
    | _ => .ref n
  | d => d
/-- never a list, a tuple, a dict -/
def atom : D → Bool
  | .non => true
  | .bl _ => true
  | .int _ => true
  | .str _ => true
  | _ => false
/-- the text of a dict of plain things -/
def reprD (d : D) : Option Str := match d with
  | .dct ks vs => if ks.all atom && vs.all atom then match toPy (.dct ks vs) with
    | some p => if p.showable && decide (p.shown.length ≤ maxLen) then some p.shown else none
    | none => none
    else none
  | _ => none
/-! kinds: 0 int, 1 bool, 2 str, 3 list, 4 tuple, 5 dict -/
def kindOf (h : Hp) : D → Option Nat
  | .non => some 9
  | .int _ => some 0
  | .bl _ => some 1
  | .str _ => some 2
  | .lst _ => some 3
  | .tup _ => some 4
  | .dct _ _ => some 5
  | .set _ => none
  | .ref n => match h[n]? with
    | some (.lst _) => some 3
    | some (.dct _ _) => some 5
    | _ => none
def isKind (k t : Nat) : Bool := k == t || (k == 1 && t == 0)
def maxI : List Int → Option Int
  | [] => none
  | x :: xs => some (xs.foldl max x)
def minI : List Int → Option Int
  | [] => none
  | x :: xs => some (xs.foldl min x)
def noItem : D → Bool
  | .tup [] => true
  | _ => false
def evB (b : Blt) (ds : List D) (h : Hp) : RV :=
  match b, ds with
  | .len, [.str x] => if x.cps.size ≤ maxLen then .ok (.int x.cps.size, false, h) else .bad
  | .len, [d] => match seqOf h d with
    | some xs => .ok (.int xs.length, false, h)
    | none => match dictOf h d with
      | some (ks, _) => .ok (.int ks.length, false, h)
      | none => .bad
  | .abs, [.int i] => .ok (.int (if i < 0 then -i else i), false, h)
  | .int, [.int i] => .ok (.int i, false, h)
  | .int, [.bl b] => .ok (.int (if b then 1 else 0), false, h)
  | .max2, [.int i, .int j] => .ok (.int (if j > i then j else i), false, h)
  | .min2, [.int i, .int j] => .ok (.int (if j < i then j else i), false, h)
  | .max1, [d] => match (seqOf h d).bind intsOf with
    | some ns => match maxI ns with
      | some m => .ok (.int m, false, h)
      | none => .bad
    | none => .bad
  | .min1, [d] => match (seqOf h d).bind intsOf with
    | some ns => match minI ns with
      | some m => .ok (.int m, false, h)
      | none => .bad
    | none => .bad
  | .max1, [d, .int x] => match (seqOf h d).bind intsOf with
    | some ns => .ok (.int ((maxI ns).getD x), false, h)
    | none => .bad
  | .min1, [d, .int x] => match (seqOf h d).bind intsOf with
    | some ns => .ok (.int ((minI ns).getD x), false, h)
    | none => .bad
  | .sum, [d] => match (listOf h d).bind intsOf with
    | some ns => .ok (.int ns.sum, false, h)
    | none => .bad
  | .all, [d] => match (listOf h d).bind boolsOf with
    | some ns => .ok (.bl (ns.all id), false, h)
    | none => .bad
  | .any, [d] => match (listOf h d).bind boolsOf with
    | some ns => .ok (.bl (ns.any id), false, h)
    | none => .bad
  | .sorted, [d] => match listOf h d with
    | some xs => if xs.length ≤ maxLen && xs.all (fun x => shp x && !noItem x && xs.all (alike x)) then .ok (.lst (sortD xs), true, h) else .bad
    | none => .bad
  | .list, [d] => match seqOf h d with
    | some xs => .ok (.lst xs, true, h)
    | none => .bad
  | .tuple, [d] => match seqOf h d with
    | some xs => .ok (.tup xs, false, h)
    | none => .bad
  | .repr, [d] => match reprD (deref h d) with
    | some x => .ok (.str x, false, h)
    | none => .bad
  | .str, [.int i] => if bits i < 1920 then .ok (.str (toString i : String), false, h) else .bad
  | .isi ts, [d] => match kindOf h d with
    | some k => .ok (.bl (ts.any (isKind k)), false, h)
    | none => .bad
  | _, _ => .bad

def lookD : List D → List D → D → Option D
  | k :: ks, v :: vs, x => if eqv k x then some v else lookD ks vs x
  | _, _, _ => none
def putD : List D → List D → D → D → List D × List D
  | k :: ks, v :: vs, x, y => if eqv k x then (k :: ks, y :: vs) else ((k :: (putD ks vs x y).1), (v :: (putD ks vs x y).2))
  | _, _, x, y => ([x], [y])
def findD (x : D) : List D → Nat → Option Nat
  | [], _ => none
  | y :: ys, i => if eqv y x then some i else findD x ys (i + 1)
/-- what a method does to a list or dict: the answer, the new content -/
inductive Cont where
  | lst (xs : List D) | dct (ks vs : List D)
def evMut (m : Mt) (c : Cont) (as : List D) : Option (D × Cont) :=
  match m, c, as with
  | .append, .lst xs, [y] => if xs.length < maxLen then some (.non, .lst (xs ++ [y])) else none
  | .insert, .lst xs, [.int i, y] => if i == 0 && decide (xs.length < maxLen) then some (.non, .lst (y :: xs)) else none
  | .clear, .lst _, [] => some (.non, .lst [])
  | .extend, .lst xs, [.lst ys] => if xs.length + ys.length ≤ maxLen then some (.non, .lst (xs ++ ys)) else none
  | .pop0, .lst xs, [] => match xs[xs.length - 1]? with
    | some y => some (y, .lst xs.dropLast)
    | none => none
  | .pop1, .lst xs, [.int i] => match ixOf xs.length i with
    | some k => match xs[k]? with
      | some y => if xs.length ≤ maxLen then some (y, .lst (xs.eraseIdx k)) else none
      | none => none
    | none => none
  | .setdef, .dct ks vs, [k, y] => if keyOk k && ks.all keyOk && decide (ks.length < maxLen) then match lookD ks vs k with
      | some v => some (v, .dct ks vs)
      | none => some (y, .dct (putD ks vs k y).1 (putD ks vs k y).2)
    else none
  | _, _, _ => none
def mthIx (r x : D) (h : Hp) : RV := match seqOf h r with
  | some xs => if shp x && xs.all shp then match findD x xs 0 with
      | some i => .ok (.int i, false, h)
      | none => .bad
    else .bad
  | none => .bad
def mthGet (r k y : D) (h : Hp) : RV := match dictOf h r with
  | some (ks, vs) => if keyOk k && ks.all keyOk then .ok ((lookD ks vs k).getD y, false, h) else .bad
  | none => .bad
def mthMut (m : Mt) (r : D) (as : List D) (h : Hp) : RV := match r with
  | .ref n => match h[n]? with
    | some (.lst xs) => match evMut m (.lst xs) as with
      | some (d, .lst ys) => .ok (d, false, h.set n (.lst ys))
      | _ => .bad
    | some (.dct ks vs) => match evMut m (.dct ks vs) as with
      | some (d, .dct ks' vs') => .ok (d, false, h.set n (.dct ks' vs'))
      | _ => .bad
    | _ => .bad
  | _ => .bad
def evMth (m : Mt) (r : D) (as : List D) (h : Hp) : RV :=
  match m with
  | .index => match as with
    | [x] => mthIx r x h
    | _ => .bad
  | .get2 => match as with
    | [k, y] => mthGet r k y h
    | _ => .bad
  | .get1 => match as with
    | [k] => mthGet r k .non h
    | _ => .bad
  | m => mthMut m r as h
def ixSeq (h : Hp) (a i : D) : Option D := match seqOf h a with
  | some xs => match i with
    | .int i => (ixOf xs.length i).bind fun j => xs[j]?
    | _ => none
  | none => match dictOf h a with
    | some (ks, vs) => if keyOk i && ks.all keyOk then lookD ks vs i else none
    | none => none
def evIx (a i : D) (h : Hp) : Option D :=
  match a with
  | .str x => match i with
    | .int i => if x.cps.size ≤ maxLen then match ixOf x.cps.size i with
        | some j => (x.cps[j]?).map fun c => .str ⟨#[c]⟩
        | none => none
      else none
    | _ => none
  | a => ixSeq h a i
def evCut (a : D) (lo hi : Option Int) (h : Hp) : RV :=
  match a with
  | .str x => if x.cps.size ≤ maxLen then .ok (.str ⟨((x.cps.toList.drop (cutIx x.cps.size 0 lo)).take (cutIx x.cps.size x.cps.size hi - cutIx x.cps.size 0 lo)).toArray⟩, false, h) else .bad
  | .tup xs => .ok (.tup (cut xs lo hi), false, h)
  | a => match listOf h a with
    | some xs => .ok (.lst (cut xs lo hi), true, h)
    | none => .bad
/-- does the method keep what it is given? -/
def Mt.keeps : Mt → Bool
  | .append => true
  | .insert => true
  | .setdef => true
  | .get2 => true
  | _ => false

/-- the kind whose method it is -/
def mtOk (m : Mt) (k : Option Nat) : Bool := match m with
  | .index => k == some 3 || k == some 4
  | .get1 => k == some 5
  | .get2 => k == some 5
  | .setdef => k == some 5
  | .count => false
  | .remove => false
  | _ => k == some 3

/-! ### the form -/
mutual
inductive Tg where
  | n (i : Nat) | t (ts : Tgs)
inductive Tgs where
  | nil | cons (t : Tg) (r : Tgs)
end
mutual
inductive E where
  | var (i : Nat) | con (d : D) | glo (i : Nat) | yes
  | tup (es : Es) | lst (es : Es) | dsp (ks vs : Es)
  | neg (a : E) | not_ (a : E) | bin (o : Op) (a b : E) | cmp (o : Cm) (a b : E) | chain (o p : Cm) (a b c : E) | chain3 (o p q : Cm) (a b c d : E)
  | and_ (a b : E) | or_ (a b : E) | ife (c a b : E)
  | call (f : Nat) (es : Es) | callk (f : Nat) (es ks : Es) (perm : List Nat) | blt (b : Blt) (es : Es) | mth (m : Mt) (r : E) (es : Es)
  | idx (a i : E) | cutE (a : E) (lo hi : Oe)
  | lc (e : E) (t : Tg) (w : It) (c : E) (own : List Nat)
  | lc2 (e : E) (t : Tg) (w : It) (c : E) (t1 : Tg) (w1 : It) (c1 : E) (own own1 : List Nat)
  | sc (e : E) (t : Tg) (w : It) (c : E) (own : List Nat)
  | heap (e : E) | fld (x : Str) | ofIt (tup : Bool) (w : It) | rev (a : E)
inductive Oe where
  | no | yes (e : E)
inductive Es where
  | nil | cons (e : E) (r : Es) | star (e : E) (r : Es)
/-- what is walked -/
inductive It where
  | seq (e : E) | rng1 (a : E) | rng2 (a b : E) | enum (e : E) | zip (a b : E)
end
mutual
inductive S where
  | expr (e : E) | mut (m : Mt) (r : E) (es : Es) | asg (t : Tg) (e : E) | par (is : List Nat) (es : Es) | setx (r k v : E) | aug (i : Nat) (o : Op) (e : E)
  | ret (e : E) | retv (i : Nat) | retN | ifs (c : E) (a b : Ss) | for_ (t : Tg) (w : It) (b : Ss) | while_ (c : E) (b : Ss)
  | raise (c : Nat) (es : Es) | try_ (b : Ss) (hs : Hs) | pass | brk | cnt | frz (is : List Nat) (s : S)
inductive Ss where
  | nil | cons (s : S) (r : Ss)
inductive Hs where
  | nil | cons (c : Nat) (i : Option Nat) (b : Ss) (r : Hs)
end

structure Fn where
  params : Nat
  slots : Nat
  pure : Bool
  body : Ss
mutual
/-- no cell of the heap within -/
def clo : D → Bool
  | .tup xs => clos xs
  | .lst xs => clos xs
  | .dct ks vs => clos ks && clos vs
  | .ref _ => false
  | _ => true
def clos : List D → Bool
  | [] => true
  | x :: xs => clo x && clos xs
end
/-- what surrounds: the calls, the module's constants, the classes of errors, the fields that errors get -/
structure Pg where
  call : Nat → List D → Hp → RV
  gl : Nat → Option D
  sub : Nat → Nat → Bool
  fld : Nat → Option Str
  wf : Nat

mutual
/-- a target is stored; a tuple is taken apart -/
def asgT : Tg → D → Env → Option Env
  | .n i, d, env => if i < env.length then some (env.set i (some ⟨d, false⟩)) else none
  | .t ts, d, env => match d with
    | .tup xs => asgTs ts xs env
    | .lst xs => asgTs ts xs env
    | _ => none
def asgTs : Tgs → List D → Env → Option Env
  | .nil, [], env => some env
  | .cons t r, x :: xs, env => match asgT t x env with
    | some env => asgTs r xs env
    | none => none
  | _, _, _ => none
end
def wipeE (env : Env) : List Nat → Env
  | [] => env
  | i :: r => (wipeE env r).set i none
/-- a comprehension's turns: what each item gives (none: left out) -/
def lcGo (chk : Hp → Bool) (f : D → Hp → R (Option D × Hp)) : List D → List D → Hp → R (List D × Hp)
  | [], acc, h => if chk h then .ok (acc, h) else .bad
  | d :: ds, acc, h => if chk h && decide (acc.length < maxLen) then (f d h).bind fun r => match r.1 with
      | some y => lcGo chk f ds (acc ++ [y]) r.2
      | none => lcGo chk f ds acc r.2
    else .bad
/-- a set comprehension's turns: each key once -/
def scGo (chk : Hp → Bool) (f : D → Hp → R (Option D × Hp)) : List D → List D → Hp → R (List D × Hp)
  | [], acc, h => if chk h then .ok (acc, h) else .bad
  | d :: ds, acc, h => if chk h && decide (acc.length < 4000) then (f d h).bind fun r => match r.1 with
      | some y => if keyOk y then scGo chk f ds (if acc.any fun z => eqv z y then acc else acc ++ [y]) r.2 else .bad
      | none => scGo chk f ds acc r.2
    else .bad
/-- the same where each item gives a row -/
def lcGo2 (chk : Hp → Bool) (f : D → List D → Hp → R (List D × Hp)) : List D → List D → Hp → R (List D × Hp)
  | [], acc, h => if chk h then .ok (acc, h) else .bad
  | d :: ds, acc, h => if chk h then (f d acc h).bind fun r => lcGo2 chk f ds r.1 r.2 else .bad
mutual
def D.beq : D → D → Bool
  | .non, .non => true
  | .bl a, .bl b => a == b
  | .int i, .int j => i == j
  | .str x, .str y => x == y
  | .tup xs, .tup ys => D.beqs xs ys
  | .lst xs, .lst ys => D.beqs xs ys
  | .dct ks vs, .dct ls ws => D.beqs ks ls && D.beqs vs ws
  | .set xs, .set ys => D.beqs xs ys
  | .ref i, .ref j => i == j
  | _, _ => false
def D.beqs : List D → List D → Bool
  | [], [] => true
  | x :: xs, y :: ys => D.beq x y && D.beqs xs ys
  | _, _ => false
end
/-- the cell that is walked stands as it was -/
def stays (src : D) (ds : List D) (h : Hp) : Bool := match src with
  | .ref n => match h[n]? with
    | some (.lst xs) => D.beqs xs ds
    | _ => false
  | _ => true
/-- the flags are forgotten: a captured own list is not to be had -/
def asBool : RV → R (Bool × Hp)
  | .ok (.bl b, _, h) => .ok (b, h)
  | .exn x h => .exn x h
  | _ => .bad
def zipD : List D → List D → List D
  | x :: xs, y :: ys => .tup [x, y] :: zipD xs ys
  | _, _ => []
def enumD : Nat → List D → List D
  | _, [] => []
  | i, x :: xs => .tup [.int i, x] :: enumD (i + 1) xs
def permD (xs : List D) : List Nat → Option (List D)
  | [] => some []
  | i :: r => match xs[i]?, permD xs r with
    | some x, some ys => some (x :: ys)
    | _, _ => none

mutual
def evE (P : Pg) (cx : Option Exn) : Bool → E → Env → Hp → RV
  | cap, .var i, env, h => match env[i]? with
    | some (some ⟨d, own⟩) => if cap && own then .bad else .ok (d, false, h)
    | _ => .bad
  | _, .con d, _, h => .ok (d, false, h)
  | _, .glo i, _, h => match P.gl i with
    | some d => .ok (d, false, h)
    | none => .bad
  | _, .yes, _, h => .ok (.bl true, false, h)
  | _, .tup es, env, h => (evEs P cx true es env h).bind fun r => if r.1.length ≤ maxLen then .ok (.tup r.1, false, r.2) else .bad
  | _, .lst es, env, h => (evEs P cx true es env h).bind fun r => if r.1.length ≤ maxLen then .ok (.lst r.1, true, r.2) else .bad
  | _, .dsp ks vs, env, h => match ks, vs with
    | .nil, .nil => .ok (.dct [] [], true, h)
    | .cons (.con (.str k)) .nil, .cons (.con v) .nil => .ok (.dct [.str k] [v], true, h)
    | _, _ => .bad
  | _, .neg a, env, h => (evE P cx false a env h).bind fun r => match r.1 with
    | .int i => .ok (.int (-i), false, r.2.2)
    | _ => .bad
  | _, .not_ a, env, h => (asBool (evE P cx false a env h)).bind fun r => .ok (.bl (!r.1), false, r.2)
  | _, .bin o a b, env, h => (evE P cx false a env h).bind fun r => (evE P cx false b env r.2.2).bind fun q => evOp o r.1 q.1 q.2.2
  | _, .cmp o a b, env, h => (evE P cx false a env h).bind fun r => (evE P cx false b env r.2.2).bind fun q => (R.of (evCm o r.1 q.1 q.2.2)).bind fun k => .ok (.bl k, false, q.2.2)
  | _, .chain o p a b c, env, h => (evE P cx false a env h).bind fun r => (evE P cx false b env r.2.2).bind fun q => (R.of (evCm o r.1 q.1 q.2.2)).bind fun k =>
      if k then (evE P cx false c env q.2.2).bind fun z => (R.of (evCm p q.1 z.1 z.2.2)).bind fun k => .ok (.bl k, false, z.2.2) else .ok (.bl false, false, q.2.2)
  | _, .chain3 o p s a b c d, env, h => (evE P cx false a env h).bind fun r => (evE P cx false b env r.2.2).bind fun q => (R.of (evCm o r.1 q.1 q.2.2)).bind fun k =>
      if k then (evE P cx false c env q.2.2).bind fun z => (R.of (evCm p q.1 z.1 z.2.2)).bind fun k => if k then (evE P cx false d env z.2.2).bind fun y => (R.of (evCm s z.1 y.1 y.2.2)).bind fun k => .ok (.bl k, false, y.2.2)
        else .ok (.bl false, false, z.2.2) else .ok (.bl false, false, q.2.2)
  | _, .and_ a b, env, h => (asBool (evE P cx false a env h)).bind fun r => if r.1 then (asBool (evE P cx false b env r.2)).bind fun q => .ok (.bl q.1, false, q.2) else .ok (.bl false, false, r.2)
  | _, .or_ a b, env, h => (asBool (evE P cx false a env h)).bind fun r => if r.1 then .ok (.bl true, false, r.2) else (asBool (evE P cx false b env r.2)).bind fun q => .ok (.bl q.1, false, q.2)
  | cap, .ife c a b, env, h => (asBool (evE P cx false c env h)).bind fun r => if r.1 then evE P cx cap a env r.2 else evE P cx cap b env r.2
  | _, .call f es, env, h => (evEs P cx true es env h).bind fun r => P.call f r.1 r.2
  | _, .callk f es ks perm, env, h => (evEs P cx true es env h).bind fun r => (evEs P cx true ks env r.2).bind fun q => (R.of (permD (r.1 ++ q.1) perm)).bind fun xs => P.call f xs q.2
  | _, .blt b es, env, h => (evEs P cx false es env h).bind fun r => evB b r.1 r.2
  | _, .mth m a es, env, h => (evE P cx false a env h).bind fun r => if mtOk m (kindOf r.2.2 r.1) then (evEs P cx m.keeps es env r.2.2).bind fun q => if kindOf r.2.2 r.1 == kindOf q.2 r.1 then evMth m r.1 q.1 q.2 else .bad else .bad
  | _, .idx a i, env, h => (evE P cx false a env h).bind fun r => (evE P cx false i env r.2.2).bind fun q => (R.of (evIx r.1 q.1 q.2.2)).bind fun d => .ok (d, false, q.2.2)
  | _, .cutE a lo hi, env, h => (evE P cx false a env h).bind fun r => (evO P cx lo env r.2.2).bind fun l => (evO P cx hi env l.2).bind fun u => evCut r.1 l.1 u.1 u.2
  | _, .lc e t w c own, env, h => (evI P cx false w env h).bind fun r => (lcGo (stays r.1 r.2.1) (fun d h => match asgT t d (wipeE env own) with
      | some env1 => (asBool (evE P cx false c env1 h)).nox.bind fun k => if k.1 then (evE P cx true e env1 k.2).nox.bind fun y => .ok (some y.1, y.2.2) else .ok (none, k.2)
      | none => .bad) r.2.1 [] r.2.2).bind fun q => .ok (.lst q.1, true, q.2)
  | _, .lc2 e t w c t1 w1 c1 own own1, env, h => (evI P cx false w env h).bind fun r => (lcGo2 (stays r.1 r.2.1) (fun d acc h => match asgT t d (wipeE env own) with
      | some env1 => (asBool (evE P cx false c env1 h)).nox.bind fun k => if k.1 then (evI P cx true w1 env1 k.2).nox.bind fun r1 => lcGo (stays r1.1 r1.2.1) (fun d h => match asgT t1 d (wipeE env1 own1) with
          | some env2 => (asBool (evE P cx false c1 env2 h)).nox.bind fun k => if k.1 then (evE P cx true e env2 k.2).nox.bind fun y => .ok (some y.1, y.2.2) else .ok (none, k.2)
          | none => .bad) r1.2.1 acc r1.2.2 else .ok (acc, k.2)
      | none => .bad) r.2.1 [] r.2.2).bind fun q => .ok (.lst q.1, true, q.2)
  | _, .sc e t w c own, env, h => (evI P cx false w env h).bind fun r => (scGo (stays r.1 r.2.1) (fun d h => match asgT t d (wipeE env own) with
      | some env1 => (asBool (evE P cx false c env1 h)).nox.bind fun k => if k.1 then (evE P cx true e env1 k.2).nox.bind fun y => .ok (some y.1, y.2.2) else .ok (none, k.2)
      | none => .bad) r.2.1 [] r.2.2).bind fun q => .ok (.set q.1, false, q.2)
  | _, .heap e, env, h => (evE P cx true e env h).bind fun r => match r with
    | (.lst xs, true, h1) => .ok (.ref h1.length, false, h1 ++ [.lst xs])
    | (.dct ks vs, true, h1) => .ok (.ref h1.length, false, h1 ++ [.dct ks vs])
    | _ => .bad
  | _, .ofIt tup w, env, h => (evI P cx false w env h).bind fun r => if r.2.1.length ≤ maxLen then .ok (if tup then .tup r.2.1 else .lst r.2.1, !tup, r.2.2) else .bad
  | _, .rev a, env, h => (evE P cx false a env h).bind fun r => match r.1 with
    | .tup xs => .ok (.tup xs.reverse, false, r.2.2)
    | d => match listOf r.2.2 d with
      | some xs => .ok (.lst xs.reverse, true, r.2.2)
      | none => .bad
  | _, .fld x, _, h => match cx with
    | some e => (R.of (e.fs.lookup x)).bind fun d => .ok (d, false, h)
    | none => .bad
def evO (P : Pg) (cx : Option Exn) : Oe → Env → Hp → R (Option Int × Hp)
  | .no, _, h => .ok (none, h)
  | .yes e, env, h => (evE P cx false e env h).bind fun r => match r.1 with
    | .int i => .ok (some i, r.2.2)
    | _ => .bad
def evEs (P : Pg) (cx : Option Exn) : Bool → Es → Env → Hp → R (List D × Hp)
  | _, .nil, _, h => .ok ([], h)
  | cap, .cons e r, env, h => (evE P cx cap e env h).bind fun a => (evEs P cx cap r env a.2.2).bind fun q => .ok (a.1 :: q.1, q.2)
  | cap, .star e r, env, h => (evE P cx false e env h).bind fun a => (R.of (seqOf a.2.2 a.1)).bind fun xs => (evEs P cx cap r env a.2.2).bind fun q => .ok (xs ++ q.1, q.2)
/-- values with their flags -/
def evPar (P : Pg) (cx : Option Exn) : Es → Env → Hp → R (List (D × Bool) × Hp)
  | .nil, _, h => .ok ([], h)
  | .cons e r, env, h => (evE P cx true e env h).bind fun a => (evPar P cx r env a.2.2).bind fun q => .ok ((a.1, a.2.1) :: q.1, q.2)
  | .star _ _, _, _ => .bad
/-- the source (a cell that must stand still, or none), the items, the heap -/
def evI (P : Pg) (cx : Option Exn) : Bool → It → Env → Hp → R (D × List D × Hp)
  | cap, .seq e, env, h => (evE P cx cap e env h).bind fun r => (R.of (seqOf r.2.2 r.1)).bind fun xs => .ok (r.1, xs, r.2.2)
  | _, .rng1 a, env, h => (evE P cx false a env h).bind fun r => match r.1 with
    | .int n => if decide (-(2 ^ 62) ≤ n) && decide (n < 2 ^ 62) then .ok (.non, rng 0 n.toNat, r.2.2) else .bad
    | _ => .bad
  | _, .rng2 a b, env, h => (evE P cx false a env h).bind fun r => (evE P cx false b env r.2.2).bind fun q => match r.1, q.1 with
    | .int i, .int j => if decide (-(2 ^ 62) ≤ i) && decide (i < 2 ^ 62) && decide (-(2 ^ 62) ≤ j) && decide (j < 2 ^ 62) then .ok (.non, rng i (j - i).toNat, q.2.2) else .bad
    | _, _ => .bad
  | cap, .enum e, env, h => (evE P cx cap e env h).bind fun r => match r.1 with
    | .lst xs => .ok (.non, enumD 0 xs, r.2.2)
    | .tup xs => .ok (.non, enumD 0 xs, r.2.2)
    | _ => .bad
  | cap, .zip a b, env, h => (evE P cx cap a env h).bind fun r => (evE P cx cap b env r.2.2).bind fun q => match r.1, q.1 with
    | .lst xs, .lst ys => .ok (.non, zipD xs ys, q.2.2)
    | .tup xs, .tup ys => .ok (.non, zipD xs ys, q.2.2)
    | _, _ => .bad
end

/-! ### statements -/
inductive SR where
  | nx (env : Env) (h : Hp) | bk (env : Env) (h : Hp) | ct (env : Env) (h : Hp) | rt (d : D) (fresh : Bool) (h : Hp) | exn (x : Exn) (env : Env) (h : Hp) | bad
/-- an expression's end in a statement -/
def R.st {α : Type} (env : Env) : R α → (α → SR) → SR
  | .ok a, f => f a
  | .exn x h, _ => .exn x env h
  | .bad, _ => .bad
@[simp] theorem R.st_ok {α : Type} (env : Env) (a : α) (f : α → SR) : (R.ok a).st env f = f a := rfl
@[simp] theorem R.st_exn {α : Type} (env : Env) (x : Exn) (h : Hp) (f : α → SR) : (R.exn x h : R α).st env f = .exn x env h := rfl
@[simp] theorem R.st_bad {α : Type} (env : Env) (f : α → SR) : (R.bad : R α).st env f = .bad := rfl
def SR.seq : SR → (Env → Hp → SR) → SR
  | .nx env h, f => f env h
  | r, _ => r
@[simp] theorem SR.seq_nx (env : Env) (h : Hp) (f : Env → Hp → SR) : (SR.nx env h).seq f = f env h := rfl
@[simp] theorem SR.seq_rt (d : D) (b : Bool) (h : Hp) (f : Env → Hp → SR) : (SR.rt d b h).seq f = .rt d b h := rfl
@[simp] theorem SR.seq_bk (env : Env) (h : Hp) (f : Env → Hp → SR) : (SR.bk env h).seq f = .bk env h := rfl
@[simp] theorem SR.seq_ct (env : Env) (h : Hp) (f : Env → Hp → SR) : (SR.ct env h).seq f = .ct env h := rfl
@[simp] theorem SR.seq_exn (x : Exn) (env : Env) (h : Hp) (f : Env → Hp → SR) : (SR.exn x env h).seq f = .exn x env h := rfl
@[simp] theorem SR.seq_bad (f : Env → Hp → SR) : SR.bad.seq f = .bad := rfl
/-- a for's turns -/
def forGo (chk : Hp → Bool) (t : Tg) (b : Env → Hp → SR) : List D → Env → Hp → SR
  | [], env, h => if chk h then .nx env h else .bad
  | d :: ds, env, h => if chk h then match asgT t d env with
      | some env1 => match b env1 h with
        | .nx env2 h2 => forGo chk t b ds env2 h2
        | .ct env2 h2 => forGo chk t b ds env2 h2
        | .bk env2 h2 => .nx env2 h2
        | r => r
      | none => .bad
    else .bad
def whileGo (c : Env → Hp → R (Bool × Hp)) (b : Env → Hp → SR) : Nat → Env → Hp → SR
  | 0, _, _ => .bad
  | n + 1, env, h => (c env h).st env fun k => if k.1 then match b env k.2 with
      | .nx env2 h2 => whileGo c b n env2 h2
      | .ct env2 h2 => whileGo c b n env2 h2
      | .bk env2 h2 => .nx env2 h2
      | r => r
    else .nx env k.2
def setsE (env : Env) : List Nat → List (D × Bool) → Option Env
  | [], [] => some env
  | i :: is, d :: ds => if i < env.length then (setsE (env.set i (some ⟨d.1, d.2⟩)) is ds) else none
  | _, _ => none
def frzE (env : Env) : List Nat → Env
  | [] => env
  | i :: is => match env[i]? with
    | some (some ⟨d, _⟩) => frzE (env.set i (some ⟨d, false⟩)) is
    | _ => frzE env is
def clrE (env : Env) : Option Nat → Env
  | some i => env.set i none
  | none => env
def okSl (i : Option Nat) (env : Env) : Bool := match i with
  | some i => decide (i < env.length)
  | none => true
/-- behind an except suite -/
def hdR (i : Option Nat) : SR → SR
  | .nx env h => .nx (clrE env i) h
  | .ct env h => .ct (clrE env i) h
  | .bk env h => .bk (clrE env i) h
  | .rt d b h => .rt d b h
  | _ => .bad
/-- an own list or dict in a slot -/
def ownAt (env : Env) (i : Nat) : Option Cont := match env[i]? with
  | some (some ⟨.lst xs, true⟩) => some (.lst xs)
  | some (some ⟨.dct ks vs, true⟩) => some (.dct ks vs)
  | _ => none
def contN : Cont → Nat
  | .lst _ => 3
  | .dct _ _ => 5
def Cont.d : Cont → D
  | .lst xs => .lst xs
  | .dct ks vs => .dct ks vs
/-- c[k] = v -/
def evSet (c : Cont) (k v : D) : Option Cont :=
  match c with
  | .lst xs => match k with
    | .int i => (ixOf xs.length i).map fun j => .lst (xs.set j v)
    | _ => none
  | .dct ks vs => if keyOk k && ks.all keyOk && decide (ks.length < maxLen) then some (.dct (putD ks vs k v).1 (putD ks vs k v).2) else none
def setRef (r k v : D) (h : Hp) : Option Hp :=
  match r with
  | .ref n => match h[n]? with
    | some (.lst xs) => match evSet (.lst xs) k v with
      | some (.lst ys) => some (h.set n (.lst ys))
      | _ => none
    | some (.dct ks vs) => match evSet (.dct ks vs) k v with
      | some (.dct ks' vs') => some (h.set n (.dct ks' vs'))
      | _ => none
    | _ => none
  | _ => none
def rootVar : E → Option Nat
  | .var i => some i
  | _ => none

mutual
def evS (P : Pg) (cx : Option Exn) : S → Env → Hp → SR
  | .expr e, env, h => (evE P cx false e env h).st env fun r => .nx env r.2.2
  | .mut m r es, env, h => match rootVar r with
    | some i => match ownAt env i with
      | some c => if mtOk m (some (contN c)) then (evEs P cx m.keeps es env h).st env fun q => match evMut m c q.1 with
        | some (_, c') => .nx (env.set i (some ⟨c'.d, true⟩)) q.2
        | none => .bad
        else .bad
      | none => (evE P cx false (.mth m r es) env h).st env fun r => .nx env r.2.2
    | none => (evE P cx false (.mth m r es) env h).st env fun r => .nx env r.2.2
  | .asg t e, env, h => (evE P cx true e env h).st env fun r => match t with
    | .n i => if i < env.length then .nx (env.set i (some ⟨r.1, r.2.1⟩)) r.2.2 else .bad
    | t => match asgT t r.1 env with
      | some env1 => .nx env1 r.2.2
      | none => .bad
  | .par is es, env, h => (evPar P cx es env h).st env fun q => match setsE env is q.1 with
    | some env1 => .nx env1 q.2
    | none => .bad
  | .setx r k v, env, h => (evE P cx true v env h).st env fun y => match rootVar r with
    | some i => match ownAt env i with
      | some c => (evE P cx false k env y.2.2).st env fun z => match evSet c z.1 y.1 with
        | some c' => .nx (env.set i (some ⟨c'.d, true⟩)) z.2.2
        | none => .bad
      | none => (evE P cx false r env y.2.2).st env fun x => (evE P cx false k env x.2.2).st env fun z => match setRef x.1 z.1 y.1 z.2.2 with
        | some h1 => .nx env h1
        | none => .bad
    | none => (evE P cx false r env y.2.2).st env fun x => (evE P cx false k env x.2.2).st env fun z => match setRef x.1 z.1 y.1 z.2.2 with
      | some h1 => .nx env h1
      | none => .bad
  | .aug i o e, env, h => match env[i]? with
    | some (some ⟨.int x, _⟩) => (evE P cx false e env h).st env fun r => match o, r.1 with
      | .add, .int y => .nx (env.set i (some ⟨.int (x + y), false⟩)) r.2.2
      | .sub, .int y => .nx (env.set i (some ⟨.int (x - y), false⟩)) r.2.2
      | _, _ => .bad
    | _ => .bad
  | .ret e, env, h => (evE P cx true e env h).st env fun r => .rt r.1 r.2.1 r.2.2
  | .retv i, env, h => match env[i]? with
    | some (some ⟨d, own⟩) => .rt d own h
    | _ => .bad
  | .retN, _, h => .rt .non false h
  | .ifs c a b, env, h => (asBool (evE P cx false c env h)).st env fun k => if k.1 then evSs P cx a env k.2 else evSs P cx b env k.2
  | .for_ t w b, env, h => (evI P cx true w env h).st env fun r => forGo (stays r.1 r.2.1) t (evSs P cx b) r.2.1 env r.2.2
  | .while_ c b, env, h => whileGo (fun env h => asBool (evE P cx false c env h)) (evSs P cx b) P.wf env h
  | .raise c es, env, h => (evEs P cx true es env h).st env fun q => match P.fld c, q.1 with
    | some x, [d] => .exn ⟨c, [(x, d)]⟩ env q.2
    | none, [] => .exn ⟨c, []⟩ env q.2
    | _, _ => .bad
  | .try_ b hs, env, h => match evSs P cx b env h with
    | .exn x env1 h1 => evHs P x hs env1 h1
    | r => r
  | .pass, env, h => .nx env h
  | .brk, env, h => .bk env h
  | .cnt, env, h => .ct env h
  | .frz is s, env, h => evS P cx s (frzE env is) h
def evSs (P : Pg) (cx : Option Exn) : Ss → Env → Hp → SR
  | .nil, env, h => .nx env h
  | .cons s r, env, h => (evS P cx s env h).seq fun env h => evSs P cx r env h
def evHs (P : Pg) (x : Exn) : Hs → Env → Hp → SR
  | .nil, env, h => .exn x env h
  | .cons c i b r, env, h => if P.sub x.cls c then (if okSl i env then hdR i (evSs P (some x) b (clrE env i) h) else .bad) else evHs P x r env h
end
/-- a call of the table's def f, at most n calls deep -/
def runFn (P : Pg) (F : Fn) (ds : List D) (h : Hp) : RV :=
  if ds.length = F.params then
    match evSs P none F.body (ds.map (fun d => some ⟨d, false⟩) ++ List.replicate (F.slots - F.params) none) h with
    | .nx _ h1 => .ok (.non, false, h1)
    | .rt d b h1 => .ok (d, b, h1)
    | .exn x _ h1 => .exn x h1
    | _ => .bad
  else .bad
structure Pk where
  tbl : Nat → Option Fn
  gl : Nat → Option D
  sub : Nat → Nat → Bool
  fld : Nat → Option Str
  wf : Nat
def Pk.pg (T : Pk) (call : Nat → List D → Hp → RV) : Pg := ⟨call, T.gl, T.sub, T.fld, T.wf⟩
/-- a call that neither sees nor leaves a cell -/
def pureR (h : Hp) : RV → RV
  | .ok (d, b, _) => if clo d then .ok (d, b, h) else .bad
  | .exn x _ => if x.fs.all fun p => clo p.2 then .exn x h else .bad
  | .bad => .bad
/-- the first one if it is an answer -/
def orR (r q : RV) : RV := match r with
  | .bad => q
  | r => r
def callN (T : Pk) : Nat → Nat → List D → Hp → RV
  | 0, _, _, _ => .bad
  | n + 1, f, ds, h => match T.tbl f with
    | some F => if F.pure && clos ds then orR (pureR h (runFn (T.pg (callN T n)) F ds [])) (runFn (T.pg (callN T n)) F ds h) else runFn (T.pg (callN T n)) F ds h
    | none => .bad
end Rw

set_option maxHeartbeats 1000000
/-! L1a: which heaps bear which data. -/
namespace Rw
open PySem (Str Addr Scope World Program)
open L2 (V HO Rd SqL SqT Vals)

abbrev HpC := L2.Hp

/-- cells that may still change: the heap's own, and those that somebody owns -/
def wof (b : List Addr) (G : Addr → Prop) : Addr → Prop := fun a => a ∈ b ∨ G a

def KTup (K : PySem.W.Frag) (a : Addr) (vs : List V) : Prop := ∃ (o : PySem.Obj) (its : Array PySem.Value) (n : Nat), K.lookup a = some o ∧ o.cls = .type "tuple" ∧ o.dict = none ∧ o.data = .seq its n ∧ its.size ≤ PySem.sizeLine ∧ Vals vs its.toList
def KLst (K : PySem.W.Frag) (a : Addr) (vs : List V) : Prop := ∃ (o : PySem.Obj) (its : Array PySem.Value) (n : Nat), K.lookup a = some o ∧ o.cls = .type "list" ∧ o.dict = none ∧ o.data = .seq its n ∧ its.size ≤ PySem.sizeLine ∧ Vals vs its.toList
/-- a tuple: its very object is known to have no dict of its own -/
def TupAt (K : PySem.W.Frag) (H : HpC) (W : Addr → Prop) (a : Addr) (vs : List V) : Prop := (∃ o : PySem.Obj, H a = some (.frz o (.tup vs)) ∧ o.dict = none ∧ ¬ W a) ∨ KTup K a vs
def LstAt (K : PySem.W.Frag) (H : HpC) (W : Addr → Prop) (a : Addr) (vs : List V) : Prop := (Rd H a (.lst vs) ∧ ¬ W a) ∨ KLst K a vs
theorem TupAt.sq {K : PySem.W.Frag} {H : HpC} {W : Addr → Prop} {a : Addr} {vs : List V} (h : TupAt K H W a vs) : SqT K H a vs :=
  h.elim (fun ⟨o, e, _, _⟩ => .inl (.inr ⟨o, e⟩)) fun ⟨o, its, n, e1, e2, _, e3, e4, e5⟩ => .inr ⟨o, its, n, e1, e2, e3, e4, e5⟩
theorem LstAt.sq {K : PySem.W.Frag} {H : HpC} {W : Addr → Prop} {a : Addr} {vs : List V} (h : LstAt K H W a vs) : SqL K H a vs := h.elim (fun h => .inl h.1) .inr

/-- keys of plain dicts -/
def kD : L2.Key → D
  | .inl i => .int i
  | .inr x => .str x
/-- the written part, the program and the world -/
structure Kx where
  f : PySem.W.Frag
  P : Program
  w : World

mutual
inductive Rep (K : Kx) (H : HpC) (W : Addr → Prop) (b : List Addr) : V → D → Prop
  | non : Rep K H W b .non .non
  | bl (x : Bool) : Rep K H W b (.bl x) (.bl x)
  | int (i : Int) : Rep K H W b (.int i) (.int i)
  | str (x : Str) : Rep K H W b (.str x) (.str x)
  | tup {a : Addr} {vs : List V} {ds : List D} : TupAt K.f H W a vs → Reps K H W b vs ds → Rep K H W b (.ref a) (.tup ds)
  | lst {a : Addr} {vs : List V} {ds : List D} : LstAt K.f H W a vs → Reps K H W b vs ds → Rep K H W b (.ref a) (.lst ds)
  | dct {a : Addr} {kvs : List (L2.Key × V)} {ds : List D} : Rd H a (.dK kvs) → ¬ W a → Reps K H W b (kvs.map (·.2)) ds → Rep K H W b (.ref a) (.dct (kvs.map fun p => kD p.1) ds)
  | set {a : Addr} {S : L2.Key → Bool} {xs : List L2.Key} : H a = some (L2.SetK K.P K.w a S xs.length) → ¬ W a → (∀ i : L2.Key, S i = true ↔ i ∈ xs) → xs.Nodup → Rep K H W b (.ref a) (.set (xs.map kD))
  | ref {a : Addr} {n : Nat} : b[n]? = some a → Rep K H W b (.ref a) (.ref n)
inductive Reps (K : Kx) (H : HpC) (W : Addr → Prop) (b : List Addr) : List V → List D → Prop
  | nil : Reps K H W b [] []
  | cons {v : V} {vs : List V} {d : D} {ds : List D} : Rep K H W b v d → Reps K H W b vs ds → Reps K H W b (v :: vs) (d :: ds)
end

section
variable {K : Kx} {H H' : HpC} {W W' : Addr → Prop} {b b' : List Addr}
theorem Reps.length : ∀ {vs : List V} {ds : List D}, Reps K H W b vs ds → vs.length = ds.length
  | _, _, .nil => rfl
  | _, _, .cons _ r => congrArg (· + 1) (Reps.length r)
theorem Reps.at : ∀ {vs : List V} {ds : List D} {i : Nat} {d : D}, Reps K H W b vs ds → ds[i]? = some d → ∃ v, vs[i]? = some v ∧ Rep K H W b v d
  | _, _, i, _, .nil, h => by simp at h
  | _, _, 0, d, .cons r _, h => by simp at h; subst h; exact ⟨_, rfl, r⟩
  | _, _, i + 1, d, .cons _ t, h => by simpa using Reps.at (i := i) t (by simpa using h)
theorem Reps.atV : ∀ {vs : List V} {ds : List D} {i : Nat} {v : V}, Reps K H W b vs ds → vs[i]? = some v → ∃ d, ds[i]? = some d ∧ Rep K H W b v d
  | _, _, i, _, .nil, h => by simp at h
  | _, _, 0, d, .cons r _, h => by simp at h; subst h; exact ⟨_, rfl, r⟩
  | _, _, i + 1, d, .cons _ t, h => by simpa using Reps.atV (i := i) t (by simpa using h)
theorem Reps.app : ∀ {vs ws : List V} {ds es : List D}, Reps K H W b vs ds → Reps K H W b ws es → Reps K H W b (vs ++ ws) (ds ++ es)
  | _, _, _, _, .nil, s => s
  | _, _, _, _, .cons r t, s => .cons r (Reps.app t s)
theorem Reps.take : ∀ {vs : List V} {ds : List D} (n : Nat), Reps K H W b vs ds → Reps K H W b (vs.take n) (ds.take n)
  | _, _, 0, _ => by simp; exact .nil
  | _, _, _ + 1, .nil => by simp; exact .nil
  | _, _, n + 1, .cons r t => .cons r (Reps.take n t)
theorem Reps.drop : ∀ {vs : List V} {ds : List D} (n : Nat), Reps K H W b vs ds → Reps K H W b (vs.drop n) (ds.drop n)
  | _, _, 0, r => r
  | _, _, _ + 1, .nil => .nil
  | _, _, n + 1, .cons _ t => Reps.drop n t
theorem Reps.set {v : V} {d : D} (r : Rep K H W b v d) : ∀ {vs : List V} {ds : List D} (i : Nat), Reps K H W b vs ds → Reps K H W b (vs.set i v) (ds.set i d)
  | _, _, _, .nil => .nil
  | _, _, 0, .cons _ t => .cons r t
  | _, _, i + 1, .cons q t => .cons q (Reps.set r i t)
theorem Reps.eraseIdx : ∀ {vs : List V} {ds : List D} (i : Nat), Reps K H W b vs ds → Reps K H W b (vs.eraseIdx i) (ds.eraseIdx i)
  | _, _, _, .nil => .nil
  | _, _, 0, .cons _ t => t
  | _, _, i + 1, .cons q t => .cons q (Reps.eraseIdx i t)
theorem Reps.dropLast : ∀ {vs : List V} {ds : List D}, Reps K H W b vs ds → Reps K H W b vs.dropLast ds.dropLast
  | _, _, .nil => .nil
  | _, _, .cons _ .nil => .nil
  | _, _, .cons r (.cons q t) => .cons r (Reps.dropLast (.cons q t))
theorem Reps.rev : ∀ {vs : List V} {ds : List D}, Reps K H W b vs ds → Reps K H W b vs.reverse ds.reverse
  | _, _, .nil => .nil
  | _, _, .cons r t => by
    rw [List.reverse_cons, List.reverse_cons]
    exact (Reps.rev t).app (.cons r .nil)
/-- what is frozen stays frozen -/
structure Kept (H : HpC) (W : Addr → Prop) (b : List Addr) (H' : HpC) (W' : Addr → Prop) (b' : List Addr) : Prop where
  keep : ∀ a o, H a = some o → ¬ W a → H' a = some o ∧ ¬ W' a
  pre : ∀ (n : Nat) (a : Addr), b[n]? = some a → b'[n]? = some a
theorem Kept.rd {a : Addr} {u : HO} (k : Kept H W b H' W' b') (h : Rd H a u) (n : ¬ W a) : Rd H' a u ∧ ¬ W' a := by
  rcases h with h | ⟨o, h⟩
  · exact ⟨.inl (k.keep a _ h n).1, (k.keep a _ h n).2⟩
  · exact ⟨.inr ⟨o, (k.keep a _ h n).1⟩, (k.keep a _ h n).2⟩
mutual
theorem Rep.kept (k : Kept H W b H' W' b') : ∀ {v : V} {d : D}, Rep K H W b v d → Rep K H' W' b' v d
  | _, _, .non => .non
  | _, _, .bl x => .bl x
  | _, _, .int i => .int i
  | _, _, .str x => .str x
  | _, _, .tup (.inl h) r => .tup (.inl (h.elim fun o h => ⟨o, (k.keep _ _ h.1 h.2.2).1, h.2.1, (k.keep _ _ h.1 h.2.2).2⟩)) (Reps.kept k r)
  | _, _, .tup (.inr h) r => .tup (.inr h) (Reps.kept k r)
  | _, _, .lst (.inl h) r => .lst (.inl (k.rd h.1 h.2)) (Reps.kept k r)
  | _, _, .lst (.inr h) r => .lst (.inr h) (Reps.kept k r)
  | _, _, .dct h n r => .dct (k.rd h n).1 (k.rd h n).2 (Reps.kept k r)
  | _, _, .set h n s u => .set (k.keep _ _ h n).1 (k.keep _ _ h n).2 s u
  | _, _, .ref h => .ref (k.pre _ _ h)
theorem Reps.kept (k : Kept H W b H' W' b') : ∀ {vs : List V} {ds : List D}, Reps K H W b vs ds → Reps K H' W' b' vs ds
  | _, _, .nil => .nil
  | _, _, .cons r t => .cons (Rep.kept k r) (Reps.kept k t)
end
theorem Kept.refl : Kept H W b H W b := ⟨fun _ _ h n => ⟨h, n⟩, fun _ _ h => h⟩
theorem Kept.trans {H2 : HpC} {W2 : Addr → Prop} {b2 : List Addr} (x : Kept H W b H' W' b') (y : Kept H' W' b' H2 W2 b2) : Kept H W b H2 W2 b2 :=
  ⟨fun a o h n => y.keep a o (x.keep a o h n).1 (x.keep a o h n).2, fun n a h => y.pre n a (x.pre n a h)⟩
theorem Kept.less (h : ∀ a, W' a → W a) : Kept H W b H W' b := ⟨fun a o e n => ⟨e, fun z => n (h a z)⟩, fun _ _ h => h⟩
end

/-- what stands at a top: a list, a dict -/
inductive TopAt (K : Kx) (H : HpC) (W : Addr → Prop) (b : List Addr) (a : Addr) : D → Prop
  | lst {vs : List V} {ds : List D} : H a = some (.lst vs) → Reps K H W b vs ds → TopAt K H W b a (.lst ds)
  | dct {kvs : List (L2.Key × V)} {ds : List D} : H a = some (.dK kvs) → Reps K H W b (kvs.map (·.2)) ds → TopAt K H W b a (.dct (kvs.map fun p => kD p.1) ds)
def cellD : Cell → D
  | .lst xs => .lst xs
  | .dct ks vs => .dct ks vs
  | .ins _ _ => .non
/-- the heap h is borne at b -/
structure HpOk (K : Kx) (H : HpC) (W : Addr → Prop) (b : List Addr) (h : Hp) : Prop where
  len : b.length = h.length
  at_ : ∀ (n : Nat) (c : Cell) (a : Addr), h[n]? = some c → b[n]? = some a → TopAt K H W b a (cellD c)
/-- all is in order: b the cells' places, G the owned places -/
structure VS (K : Kx) (H : HpC) (b : List Addr) (G : Addr → Prop) (h : Hp) : Prop where
  nd : b.Nodup
  dis : ∀ a ∈ b, ¬ G a
  hp : HpOk K H (wof b G) b h
  live : ∀ a, G a → H a ≠ none
/-- behind an expression -/
structure Ext (H : HpC) (b : List Addr) (G : Addr → Prop) (H' : HpC) (b' : List Addr) (G' : Addr → Prop) : Prop where
  keep : ∀ a o, H a = some o → a ∉ b → H' a = some o ∧ a ∉ b'
  pre : ∀ (n : Nat) (a : Addr), b[n]? = some a → b'[n]? = some a
  new : ∀ a, G' a → G a ∨ H a = none
  there : ∀ a, H a ≠ none → H' a ≠ none
section
variable {K : Kx} {H H' H2 : HpC} {b b' b2 : List Addr} {G G' G2 : Addr → Prop} {h h' : Hp}
theorem Ext.kept (x : Ext H b G H' b' G') : Kept H (wof b G) b H' (wof b' G') b' :=
  ⟨fun a o e n => ⟨(x.keep a o e fun z => n (.inl z)).1, fun z => z.elim (x.keep a o e fun z => n (.inl z)).2 fun z => (x.new a z).elim (fun z => n (.inr z)) fun z => by rw [e] at z; cases z⟩, x.pre⟩
theorem Ext.refl : Ext H b G H b G := ⟨fun _ _ e n => ⟨e, n⟩, fun _ _ h => h, fun _ h => .inl h, fun _ h => h⟩
theorem Ext.trans (x : Ext H b G H' b' G') (y : Ext H' b' G' H2 b2 G2) : Ext H b G H2 b2 G2 :=
  ⟨fun a o e n => y.keep a o (x.keep a o e n).1 (x.keep a o e n).2, fun n a e => y.pre n a (x.pre n a e), fun a z => (y.new a z).elim (x.new a) fun z => by
    cases q : H a with
    | none => exact .inr rfl
    | some o => exact absurd z (x.there a (by rw [q]; exact fun z => nomatch z)), fun a n => y.there a (x.there a n)⟩
/-- fewer are owned behind it -/
theorem Ext.less (x : Ext H b G H' b' G') (h : ∀ a, G2 a → G' a) : Ext H b G H' b' G2 := ⟨x.keep, x.pre, fun a z => x.new a (h a z), x.there⟩
theorem TopAt.kept {W W' : Addr → Prop} {a : Addr} {d : D} (k : Kept H W b H' W' b') (e : H' a = H a) (t : TopAt K H W b a d) : TopAt K H' W' b' a d := by
  cases t with
  | lst h r => exact .lst (e.trans h) (r.kept k)
  | dct h r => exact .dct (e.trans h) (r.kept k)
theorem TopAt.some {W : Addr → Prop} {a : Addr} {d : D} (t : TopAt K H W b a d) : H a ≠ none := by
  cases t with
  | lst h r => rw [h]; exact fun z => nomatch z
  | dct h r => rw [h]; exact fun z => nomatch z
/-- an own top is given up: it is frozen -/
theorem VS.less (v : VS K H b G h) (x : ∀ a, G' a → G a) : VS K H b G' h :=
  ⟨v.nd, fun a m z => v.dis a m (x a z), ⟨v.hp.len, fun n c a e1 e2 => (v.hp.at_ n c a e1 e2).kept (Kept.less fun a z => z.elim .inl fun z => .inr (x a z)) rfl⟩, fun a z => v.live a (x a z)⟩
theorem Kept.lessG (x : ∀ a, G' a → G a) : Kept H (wof b G) b H (wof b G') b := Kept.less fun a z => z.elim .inl fun z => .inr (x a z)
theorem TopAt.rep {W : Addr → Prop} {a : Addr} {d : D} (t : TopAt K H W b a d) (n : ¬ W a) : Rep K H W b (.ref a) d := by
  cases t with
  | lst h r => exact .lst (.inl ⟨.inl h, n⟩) r
  | dct h r => exact .dct (.inl h) n r
theorem VS.cell (v : VS K H b G h) {n : Nat} {c : Cell} {a : Addr} (e : h[n]? = some c) (q : b[n]? = some a) : TopAt K H (wof b G) b a (cellD c) := v.hp.at_ n c a e q
theorem VS.cell' (v : VS K H b G h) {n : Nat} {c : Cell} (e : h[n]? = some c) : ∃ a, b[n]? = some a ∧ TopAt K H (wof b G) b a (cellD c) := by
  have l : n < b.length := by rw [v.hp.len]; exact (List.getElem?_eq_some_iff.mp e).1
  exact ⟨b[n], by simp [l], v.hp.at_ n c _ e (by simp [l])⟩
theorem VS.liveB (v : VS K H b G h) : ∀ a ∈ b, H a ≠ none := fun a m => by
  obtain ⟨n, hn⟩ := List.getElem?_of_mem m
  have l : n < h.length := by rw [← v.hp.len]; exact (List.getElem?_eq_some_iff.mp hn).1
  exact (v.hp.at_ n h[n] a (by simp [l]) hn).some
theorem VS.fresh (v : VS K H b G h) {p : Addr} (e : H p = none) : p ∉ b ∧ ¬ G p := ⟨fun m => v.liveB p m e, fun z => v.live p z e⟩
/-- a new thing is laid -/
theorem Ext.laid (v : VS K H b G h) {p : Addr} {o : HO} (e : H p = none) : Ext H b G (L2.upd H p o) b G := by
  refine ⟨fun a u q n => ⟨?_, n⟩, fun _ _ h => h, fun _ h => .inl h, fun a n => ?_⟩
  · rw [L2.upd_ne (L2.ne_of_none q e)]; exact q
  · by_cases z : a = p
    · rw [z, L2.upd_same]; exact fun z => nomatch z
    · rw [L2.upd_ne z]; exact n
theorem VS.ext (v : VS K H b G h) (x : Ext H b G H' b G) (same : ∀ a ∈ b, H' a = H a) : VS K H' b G h :=
  ⟨v.nd, v.dis, ⟨v.hp.len, fun n c a e1 e2 => (v.hp.at_ n c a e1 e2).kept x.kept (same a (List.mem_of_getElem? e2))⟩, fun a z => x.there a (v.live a z)⟩
theorem VS.laid (v : VS K H b G h) {p : Addr} {o : HO} (e : H p = none) : VS K (L2.upd H p o) b G h :=
  v.ext (Ext.laid v e) fun a m => L2.upd_ne fun z => (v.fresh e).1 (z ▸ m)
/-- a new thing is laid and owned -/
abbrev plus (G : Addr → Prop) (p : Addr) : Addr → Prop := fun a => G a ∨ a = p
theorem Ext.laidOwn (v : VS K H b G h) {p : Addr} {o : HO} (e : H p = none) : Ext H b G (L2.upd H p o) b (plus G p) :=
  ⟨(Ext.laid v e).keep, fun _ _ h => h, fun a z => z.elim .inl fun z => .inr (z ▸ e), (Ext.laid v e).there⟩
theorem VS.laidOwn (v : VS K H b G h) {p : Addr} {o : HO} (e : H p = none) : VS K (L2.upd H p o) b (plus G p) h := by
  have x := Ext.laidOwn (o := o) v e
  refine ⟨v.nd, fun a m z => z.elim (v.dis a m) fun z => (v.fresh e).1 (z ▸ m), ⟨v.hp.len, fun n c a e1 e2 => (v.hp.at_ n c a e1 e2).kept x.kept (L2.upd_ne fun z => (v.fresh e).1 (z ▸ List.mem_of_getElem? e2))⟩, fun a z => z.elim (fun z => x.there a (v.live a z)) fun z => ?_⟩
  rw [z, L2.upd_same]; exact fun z => nomatch z
end

/-! ### slots -/
def SlotOk (K : Kx) (H : HpC) (b : List Addr) (G : Addr → Prop) (v : V) (s : Sl) : Prop :=
  if s.own = true then ∃ a, v = .ref a ∧ G a ∧ TopAt K H (wof b G) b a s.d else Rep K H (wof b G) b v s.d
def Slots (K : Kx) (env : Env) (sg : L2.St) (H : HpC) (b : List Addr) (G : Addr → Prop) : Prop :=
  ∀ (i : Nat) (s : Sl), env[i]? = some (some s) → ∃ v, sg[i]? = some (some v) ∧ SlotOk K H b G v s
/-- a value as it is looked at: its top may be owned -/
inductive Vw (K : Kx) (H : HpC) (b : List Addr) (G : Addr → Prop) : V → D → Prop
  | rep {v : V} {d : D} : Rep K H (wof b G) b v d → Vw K H b G v d
  | top {a : Addr} {d : D} : G a → TopAt K H (wof b G) b a d → Vw K H b G (.ref a) d
section
variable {K : Kx} {H H' H2 : HpC} {b b' b2 : List Addr} {G G' G2 : Addr → Prop} {h h' : Hp}
theorem SlotOk.ext (v : VS K H b G h) (x : Ext H b G H' b' G') (hG : ∀ a, G a → G' a) {w : V} {s : Sl} (q : SlotOk K H b G w s) : SlotOk K H' b' G' w s := by
  unfold SlotOk at q ⊢
  split
  · rename_i e
    rw [if_pos e] at q
    obtain ⟨a, e1, e2, t⟩ := q
    refine ⟨a, e1, hG a e2, t.kept x.kept ?_⟩
    cases z : H a with
    | none => exact absurd z (v.live a e2)
    | some o => exact (x.keep a o z fun m => v.dis a m e2).1
  · rename_i e
    rw [if_neg e] at q
    exact q.kept x.kept
theorem Slots.ext {env : Env} {sg : L2.St} (v : VS K H b G h) (x : Ext H b G H' b' G') (hG : ∀ a, G a → G' a) (s : Slots K env sg H b G) : Slots K env sg H' b' G' := fun i sl e => by
  obtain ⟨w, e1, q⟩ := s i sl e
  exact ⟨w, e1, q.ext v x hG⟩
theorem Vw.ext (v : VS K H b G h) (x : Ext H b G H' b' G') (hG : ∀ a, G a → G' a) {w : V} {d : D} (q : Vw K H b G w d) : Vw K H' b' G' w d := by
  cases q with
  | rep r => exact .rep (r.kept x.kept)
  | top e t =>
    refine .top (hG _ e) (t.kept x.kept ?_)
    rename_i a
    cases z : H a with
    | none => exact absurd z (v.live a e)
    | some o => exact (x.keep a o z fun m => v.dis a m e).1
end

/-! ### what an expression hands on -/
/-- the value of a result -/
def Res (K : Kx) (cap : Bool) (H : HpC) (b : List Addr) (G : Addr → Prop) (v : V) (d : D) (own : Bool) (G' : Addr → Prop) : Prop :=
  if own = true then ∃ p, v = .ref p ∧ ¬ G p ∧ G' = plus G p ∧ TopAt K H (wof b (plus G p)) b p d
  else G' = G ∧ if cap = true then Rep K H (wof b G) b v d else Vw K H b G v d
/-- an error's own dict: its fields -/
def XAt (K : Kx) (H : HpC) (b : List Addr) (G : Addr → Prop) (dd : Addr) (x : Exn) : Prop :=
  ∃ fs : List (Str × V), H dd = some (.xd fs) ∧ ¬ wof b G dd ∧ ∀ f d, x.fs.lookup f = some d → ∃ v, fs.lookup f = some v ∧ Rep K H (wof b G) b v d
/-- a result of the interpreter, and what is wanted of it -/
def Run (K : Kx) (ca : Nat → Addr) (cap : Bool) (H : HpC) (b : List Addr) (G : Addr → Prop) (r : RV) (Q : V → HpC → Prop) (E : PySem.Value → Option Addr → HpC → Prop) : Prop :=
  match r with
  | .ok (d, own, h') => ∀ v H' b' G', Ext H b G H' b' G' → VS K H' b' G' h' → Res K cap H' b' G v d own G' → Q v H'
  | .exn x h' => ∀ dd H' b', Ext H b G H' b' G → VS K H' b' G h' → XAt K H' b' G dd x → E (.ref (ca x.cls)) (some dd) H'
  | .bad => False
section
variable {K : Kx} {ca : Nat → Addr} {H H' H2 : HpC} {b b' b2 : List Addr} {G G' G2 : Addr → Prop} {h h' : Hp}
theorem Res.vw {cap : Bool} {v : V} {d : D} {own : Bool} (s : VS K H b G' h) (r : Res K cap H b G v d own G') : VS K H b G h ∧ Vw K H b G v d := by
  unfold Res at r
  split at r
  · obtain ⟨p, e1, e2, e3, t⟩ := r
    subst e1; subst e3
    have n : p ∉ b := fun m => s.dis p m (.inr rfl)
    refine ⟨s.less fun a z => .inl z, .rep ((t.kept (Kept.lessG fun a z => .inl z) rfl).rep fun z => z.elim n e2)⟩
  · obtain ⟨e1, r⟩ := r
    subst e1
    refine ⟨s, ?_⟩
    split at r
    · exact .rep r
    · exact r
theorem Res.rep {v : V} {d : D} {own : Bool} (s : VS K H b G' h) (r : Res K true H b G v d own G') : VS K H b G h ∧ Rep K H (wof b G) b v d := by
  unfold Res at r
  split at r
  · obtain ⟨p, e1, e2, e3, t⟩ := r
    subst e1; subst e3
    have n : p ∉ b := fun m => s.dis p m (.inr rfl)
    exact ⟨s.less fun a z => .inl z, (t.kept (Kept.lessG fun a z => .inl z) rfl).rep fun z => z.elim n e2⟩
  · obtain ⟨e1, r⟩ := r
    subst e1
    exact ⟨s, by simpa using r⟩
theorem Res.ext {cap : Bool} {v : V} {d : D} {own : Bool} (x : Ext H b G H' b' G') (r : Res K cap H' b' G v d own G') : Ext H b G H' b' G := by
  unfold Res at r
  split at r
  · obtain ⟨p, e1, e2, e3, t⟩ := r
    subst e3
    exact x.less fun a z => .inl z
  · rw [r.1] at x; exact x
theorem Res.plain {cap : Bool} {v : V} {d : D} (r : Rep K H (wof b G) b v d) : Res K cap H b G v d false G := by
  unfold Res
  simp only [Bool.false_eq_true, if_false, true_and]
  split
  · exact r
  · exact .rep r
theorem Run.mono {cap : Bool} {r : RV} {Q Q' : V → HpC → Prop} {E E' : PySem.Value → Option Addr → HpC → Prop} (x : Run K ca cap H b G r Q E) (hq : ∀ v H', Q v H' → Q' v H') (he : ∀ c d H', E c d H' → E' c d H') : Run K ca cap H b G r Q' E' := by
  unfold Run at x ⊢
  split
  · exact fun v H' b' G' e s r => hq _ _ (x v H' b' G' e s r)
  · exact fun dd H' b' e s r => he _ _ _ (x dd H' b' e s r)
  · exact x
/-- one after another -/
theorem Run.bind {cap cap2 : Bool} {r : RV} {f : D × Bool × Hp → RV} {Q Q2 : V → HpC → Prop} {E : PySem.Value → Option Addr → HpC → Prop} (x : Run K ca cap H b G (r.bind f) Q E)
    (hq : ∀ d own h' v H' b' G', r = .ok (d, own, h') → Ext H b G H' b' G' → VS K H' b' G' h' → Res K cap2 H' b' G v d own G' → Run K ca cap H' b' G (f (d, own, h')) Q E → Q2 v H') : Run K ca cap2 H b G r Q2 E := by
  cases r with
  | ok p =>
    obtain ⟨d, own, h'⟩ := p
    intro v H' b' G' e s r
    refine hq d own h' v H' b' G' rfl e s r ?_
    have e0 := r.ext e
    have x : Run K ca cap H b G (f (d, own, h')) Q E := x
    unfold Run at x ⊢
    split
    · rename_i q
      rw [q] at x
      exact fun v H2 b2 G2 e2 s2 r2 => x v H2 b2 G2 (e0.trans e2) s2 r2
    · rename_i q
      rw [q] at x
      exact fun dd H2 b2 e2 s2 r2 => x dd H2 b2 (e0.trans e2) s2 r2
    · rename_i q
      rw [q] at x
      exact x
  | exn y h' => exact x
  | bad => exact x
end
end Rw

set_option maxHeartbeats 1000000
/-! L1b: what values say, new things, operators. -/
namespace Rw
open PySem PySem.Spec PyProof.Rows L2

section
variable {K : Kx} {H : HpC} {b : List Addr} {G : Addr → Prop} {h : Hp} {v : V}
theorem Vw.int {i : Int} (x : Vw K H b G v (.int i)) : v = .int i := by
  cases x with
  | rep r => cases r; rfl
  | top e t => cases t
theorem Vw.bl {i : Bool} (x : Vw K H b G v (.bl i)) : v = .bl i := by
  cases x with
  | rep r => cases r; rfl
  | top e t => cases t
theorem Vw.str {i : Str} (x : Vw K H b G v (.str i)) : v = .str i := by
  cases x with
  | rep r => cases r; rfl
  | top e t => cases t
theorem Vw.non (x : Vw K H b G v .non) : v = .non := by
  cases x with
  | rep r => cases r; rfl
  | top e t => cases t
theorem Vw.tup {ds : List D} (x : Vw K H b G v (.tup ds)) : ∃ a vs, v = .ref a ∧ TupAt K.f H (wof b G) a vs ∧ Reps K H (wof b G) b vs ds := by
  cases x with
  | rep r => cases r with | tup h r => exact ⟨_, _, rfl, h, r⟩
  | top e t => cases t
theorem Vw.tupR {ds : List D} (x : Vw K H b G v (.tup ds)) : Rep K H (wof b G) b v (.tup ds) := by
  cases x with
  | rep r => exact r
  | top e t => cases t
theorem Vw.lst {ds : List D} (x : Vw K H b G v (.lst ds)) : ∃ a vs, v = .ref a ∧ SqL K.f H a vs ∧ Reps K H (wof b G) b vs ds := by
  cases x with
  | rep r => cases r with | lst h r => exact ⟨_, _, rfl, h.sq, r⟩
  | top e t => cases t with | lst h r => exact ⟨_, _, rfl, SqL.of h, r⟩
theorem Vw.list (s : VS K H b G h) {d : D} {ds : List D} (e : listOf h d = some ds) (x : Vw K H b G v d) : ∃ a vs, v = .ref a ∧ SqL K.f H a vs ∧ Reps K H (wof b G) b vs ds := by
  cases d with
  | lst xs => cases e; exact x.lst
  | ref n =>
    unfold listOf at e
    cases q : h[n]? with
    | none => simp only [q] at e; cases e
    | some c =>
      cases c with
      | lst xs =>
        simp only [q] at e
        cases e
        obtain ⟨a, e1, t⟩ := s.cell' q
        cases x with
        | rep r =>
          cases r with
          | ref r =>
            rw [e1] at r; cases r
            cases t with
            | lst h r => exact ⟨_, _, rfl, SqL.of h, r⟩
        | top e t => cases t
      | dct ks vs => simp only [q] at e; cases e
      | ins c fs => simp only [q] at e; cases e
  | _ => cases e
theorem Vw.dict (s : VS K H b G h) {d : D} {ks ds : List D} (e : dictOf h d = some (ks, ds)) (x : Vw K H b G v d) : ∃ a kvs, v = .ref a ∧ Rd H a (.dK kvs) ∧ ks = kvs.map (fun p => kD p.1) ∧ Reps K H (wof b G) b (kvs.map (·.2)) ds := by
  cases d with
  | dct ks vs =>
    cases e
    cases x with
    | rep r => cases r with | dct h n r => exact ⟨_, _, rfl, h, rfl, r⟩
    | top e t => cases t with | dct h r => exact ⟨_, _, rfl, .inl h, rfl, r⟩
  | ref n =>
    unfold dictOf at e
    cases q : h[n]? with
    | none => simp only [q] at e; cases e
    | some c =>
      cases c with
      | dct ks vs =>
        simp only [q] at e
        cases e
        obtain ⟨a, e1, t⟩ := s.cell' q
        cases x with
        | rep r =>
          cases r with
          | ref r =>
            rw [e1] at r; cases r
            have t : TopAt K H (wof b G) b _ (.dct ks ds) := t
            cases t with
            | dct h r => exact ⟨_, _, rfl, .inl h, rfl, r⟩
        | top e t => cases t
      | lst ks => simp only [q] at e; cases e
      | ins c fs => simp only [q] at e; cases e
  | _ => cases e
theorem seqOf_or {d : D} {ds : List D} (e : seqOf h d = some ds) : d = .tup ds ∨ listOf h d = some ds := by
  cases d <;> first | exact .inr e | exact .inl (by cases e; rfl)
theorem Vw.seq (s : VS K H b G h) {d : D} {ds : List D} (e : seqOf h d = some ds) (x : Vw K H b G v d) : ∃ a vs, v = .ref a ∧ (SqL K.f H a vs ∨ SqT K.f H a vs) ∧ Reps K H (wof b G) b vs ds := by
  rcases seqOf_or e with rfl | e
  · obtain ⟨a, vs, e1, t, r⟩ := x.tup
    exact ⟨a, vs, e1, .inr t.sq, r⟩
  · obtain ⟨a, vs, e1, t, r⟩ := x.list s e
    exact ⟨a, vs, e1, .inl t, r⟩
/-! ### new things -/
variable {ca : Nat → Addr} {cap : Bool} {Q : V → HpC → Prop} {E : Value → Option Addr → HpC → Prop}
theorem Run.val {d : D} (s : VS K H b G h) (x : Run K ca cap H b G (.ok (d, false, h)) Q E) (r : Rep K H (wof b G) b v d) : Q v H := x v H b G Ext.refl s (Res.plain r)
theorem Run.look {d : D} (s : VS K H b G h) (x : Run K ca false H b G (.ok (d, false, h)) Q E) (r : Vw K H b G v d) : Q v H := x v H b G Ext.refl s (by simp only [Res]; simp; exact r)
theorem Run.newL {vs : List V} {ds : List D} (s : VS K H b G h) (x : Run K ca cap H b G (.ok (.lst ds, true, h)) Q E) (r : Reps K H (wof b G) b vs ds) : ∀ p, H p = none → Q (.ref p) (upd H p (.lst vs)) := fun p e => by
  refine x (.ref p) _ b (plus G p) (Ext.laidOwn s e) (s.laidOwn e) ?_
  unfold Res
  rw [if_pos rfl]
  exact ⟨p, rfl, (s.fresh e).2, rfl, .lst upd_same (r.kept (Ext.laidOwn s e).kept)⟩
theorem Run.newK {kvs : List (Key × V)} {ks ds : List D} (s : VS K H b G h) (x : Run K ca cap H b G (.ok (.dct ks ds, true, h)) Q E) (hk : ks = kvs.map fun p => kD p.1) (r : Reps K H (wof b G) b (kvs.map (·.2)) ds) : ∀ p, H p = none → Q (.ref p) (upd H p (.dK kvs)) := fun p e => by
  subst hk
  refine x (.ref p) _ b (plus G p) (Ext.laidOwn s e) (s.laidOwn e) ?_
  unfold Res
  rw [if_pos rfl]
  exact ⟨p, rfl, (s.fresh e).2, rfl, .dct upd_same (r.kept (Ext.laidOwn s e).kept)⟩
theorem Rep.newT {vs : List V} {ds : List D} {o : Obj} {p : Addr} (s : VS K H b G h) (e : H p = none) (ho : o.dict = none) (r : Reps K H (wof b G) b vs ds) : Rep K (upd H p (.frz o (.tup vs))) (wof b G) b (.ref p) (.tup ds) := by
  have f := s.fresh e
  exact .tup (.inl ⟨o, upd_same, ho, fun z => z.elim f.1 f.2⟩) (r.kept (Ext.laid s e).kept)
theorem Run.newT {vs : List V} {ds : List D} (s : VS K H b G h) (x : Run K ca cap H b G (.ok (.tup ds, false, h)) Q E) (r : Reps K H (wof b G) b vs ds) : ∀ p o, H p = none → o.dict = none → Q (.ref p) (upd H p (.frz o (.tup vs))) := fun p o e ho => by
  exact x (.ref p) _ b G (Ext.laid s e) (s.laid e) (Res.plain (Rep.newT s e ho r))
end

section
variable {X : Cx} {pins : List (Addr × Obj)} {σ : L2.St} {H : HpC} {s : Shared}
/-- a tuple just laid, its very object told -/
theorem laidT (I : Inv X pins σ H s) {vs : List V} {us : List Value} {t' : Nat} (r : Vals vs us) (hz : vs.length ≤ sizeLine) :
    ∃ o : Obj, o.dict = none ∧ H s.heap.objs.size = none ∧ Inv X pins σ (upd H s.heap.objs.size (.frz o (.tup vs))) { s with heap := s.heap.push { cls := .type "tuple", data := .seq us.toArray }, toks := t' } := by
  refine ⟨{ cls := .type "tuple", data := .seq us.toArray }, rfl, I.hok.fresh (Nat.le_refl _), ?_⟩
  exact I.laid (t' := t') (fun b u e => Heap.get?_push_of_some _ e) (Nat.le_refl _) ⟨Heap.get?_push_size _ rfl, hz, us, r, IsTup.new _ _⟩
end

/-! ### plain data -/
mutual
def toP : D → PyData
  | .bl b => .bool b
  | .int i => .int i
  | .str x => .str x
  | .tup xs => .tuple (toPl xs)
  | .lst xs => .list (toPl xs)
  | _ => .none
def toPl : List D → List PyData
  | [] => []
  | x :: xs => toP x :: toPl xs
end
theorem toPl_map : ∀ xs : List D, toPl xs = xs.map toP
  | [] => by simp only [toPl, List.map_nil]
  | x :: xs => by simp only [toPl, List.map_cons, toPl_map xs]
theorem shs_all (n : Nat) : ∀ xs : List D, shs n xs = xs.all (sh n)
  | [] => by simp [shs]
  | x :: xs => by simp [shs, shs_all n xs]
mutual
theorem sh_lay : ∀ (n : Nat) (d : D), sh n d = true → (toP d).canLay0 = true ∧ (toP d).depth ≤ n
  | n, .non, _ => by simp [toP, PyData.canLay0, PyData.depth]
  | n, .bl _, _ => by simp [toP, PyData.canLay0, PyData.depth]
  | n, .int _, _ => by simp [toP, PyData.canLay0, PyData.depth]
  | n, .str x, h => by
    have h' : x.cps.all (· < 0x110000) = true := by cases n <;> simpa [sh] using h
    simp only [toP, PyData.canLay0, PyData.depth]
    exact ⟨h', Nat.zero_le _⟩
  | n + 1, .tup xs, h => by
    have q := shs_lay n xs (by simpa [sh] using h)
    simp only [toP, PyData.canLay0, PyData.depth]
    exact ⟨q.1, by omega⟩
  | n + 1, .lst xs, h => by
    have q := shs_lay n xs (by simpa [sh] using h)
    simp only [toP, PyData.canLay0, PyData.depth]
    exact ⟨q.1, by omega⟩
  | 0, .tup xs, h => by simp [sh] at h
  | 0, .lst xs, h => by simp [sh] at h
  | n, .dct _ _, h => by cases n <;> simp [sh] at h
  | n, .set _, h => by cases n <;> simp [sh] at h
  | n, .ref _, h => by cases n <;> simp [sh] at h
theorem shs_lay : ∀ (n : Nat) (xs : List D), shs n xs = true → PyData.canLayAll0 (toPl xs) = true ∧ PyData.depthAll (toPl xs) ≤ n
  | n, [], _ => by simp [toPl, PyData.canLayAll0, PyData.depthAll]
  | n, x :: xs, h => by
    have h' : sh n x = true ∧ shs n xs = true := by simpa [shs] using h
    have q1 := sh_lay n x h'.1
    have q2 := shs_lay n xs h'.2
    simp only [toPl, PyData.canLayAll0, PyData.depthAll, Bool.and_eq_true]
    exact ⟨⟨q1.1, q2.1⟩, by omega⟩
end
theorem shp_shaped {d : D} (h : shp d = true) : SeqAt.shaped (toP d) = true := by
  have q := sh_lay 60 d h
  unfold SeqAt.shaped
  rw [Bool.and_eq_true]
  exact ⟨q.1, decide_eq_true (by omega)⟩
mutual
theorem eqv_toP : ∀ (x y : D), (∃ n, sh n x = true) → (∃ n, sh n y = true) → eqv x y = PyData.eqv (toP x) (toP y)
  | .non, y, _, hy => by cases y <;> first | (obtain ⟨n, hy⟩ := hy; cases n <;> simp [sh] at hy; done) | simp [eqv, toP, PyData.eqv]
  | .bl a, y, _, hy => by cases y <;> first | (obtain ⟨n, hy⟩ := hy; cases n <;> simp [sh] at hy; done) | simp [eqv, toP, PyData.eqv]
  | .int a, y, _, hy => by cases y <;> first | (obtain ⟨n, hy⟩ := hy; cases n <;> simp [sh] at hy; done) | simp [eqv, toP, PyData.eqv]
  | .str a, y, _, hy => by cases y <;> first | (obtain ⟨n, hy⟩ := hy; cases n <;> simp [sh] at hy; done) | simp [eqv, toP, PyData.eqv]
  | .tup xs, y, hx, hy => by
    cases y <;> first | (obtain ⟨n, hy⟩ := hy; cases n <;> simp [sh] at hy; done) | simp [eqv, toP, PyData.eqv]
    rename_i ys
    obtain ⟨n, hx⟩ := hx
    obtain ⟨m, hy⟩ := hy
    cases n with
    | zero => simp [sh] at hx
    | succ n =>
      cases m with
      | zero => simp [sh] at hy
      | succ m => exact eqvs_toP xs ys ⟨n, by simpa [sh] using hx⟩ ⟨m, by simpa [sh] using hy⟩
  | .lst xs, y, hx, hy => by
    cases y <;> first | (obtain ⟨n, hy⟩ := hy; cases n <;> simp [sh] at hy; done) | simp [eqv, toP, PyData.eqv]
    rename_i ys
    obtain ⟨n, hx⟩ := hx
    obtain ⟨m, hy⟩ := hy
    cases n with
    | zero => simp [sh] at hx
    | succ n =>
      cases m with
      | zero => simp [sh] at hy
      | succ m => exact eqvs_toP xs ys ⟨n, by simpa [sh] using hx⟩ ⟨m, by simpa [sh] using hy⟩
  | .dct _ _, _, hx, _ => by obtain ⟨n, hx⟩ := hx; cases n <;> simp [sh] at hx
  | .set _, _, hx, _ => by obtain ⟨n, hx⟩ := hx; cases n <;> simp [sh] at hx
  | .ref _, _, hx, _ => by obtain ⟨n, hx⟩ := hx; cases n <;> simp [sh] at hx
theorem eqvs_toP : ∀ (xs ys : List D), (∃ n, shs n xs = true) → (∃ n, shs n ys = true) → eqvs xs ys = PyData.eqvAll (toPl xs) (toPl ys)
  | [], [], _, _ => by simp [eqvs, toPl, PyData.eqvAll]
  | [], _ :: _, _, _ => by simp [eqvs, toPl, PyData.eqvAll]
  | _ :: _, [], _, _ => by simp [eqvs, toPl, PyData.eqvAll]
  | x :: xs, y :: ys, ⟨n, hx⟩, ⟨m, hy⟩ => by
    have hx : sh n x = true ∧ shs n xs = true := by simpa [shs] using hx
    have hy : sh m y = true ∧ shs m ys = true := by simpa [shs] using hy
    simp only [eqvs, toPl, PyData.eqvAll, eqv_toP x y ⟨n, hx.1⟩ ⟨m, hy.1⟩, eqvs_toP xs ys ⟨n, hx.2⟩ ⟨m, hy.2⟩]
end
section
variable {K : Kx} {H : HpC} {W : Addr → Prop} {b : List Addr} {G : Addr → Prop} {h : Hp}
mutual
theorem Rep.dp : ∀ {v : V} {d : D}, Rep K H W b v d → ∀ n, sh n d = true → Dp K.f H v (toP d)
  | _, _, .non, _, _ => by rw [toP] <;> first | exact .non | (intros; contradiction)
  | _, _, .bl x, _, _ => by rw [toP]; exact .bl x
  | _, _, .int i, _, _ => by rw [toP]; exact .int i
  | _, _, .str x, _, _ => by rw [toP]; exact .str x
  | _, _, .tup h r, n, e => by
    cases n with
    | zero => simp [sh] at e
    | succ n => rw [toP]; exact .tup h.sq (Reps.dp r n (by simpa [sh] using e))
  | _, _, .lst h r, n, e => by
    cases n with
    | zero => simp [sh] at e
    | succ n => rw [toP]; exact .lst h.sq (Reps.dp r n (by simpa [sh] using e))
  | _, _, .dct _ _ _, n, e => by cases n <;> simp [sh] at e
  | _, _, .set _ _ _ _, n, e => by cases n <;> simp [sh] at e
  | _, _, .ref _, n, e => by cases n <;> simp [sh] at e
theorem Reps.dp : ∀ {vs : List V} {ds : List D}, Reps K H W b vs ds → ∀ n, shs n ds = true → DpAll K.f H vs (toPl ds)
  | _, _, .nil, _, _ => by rw [toPl]; exact .nil
  | _, _, .cons r t, n, e => by
    rw [shs, Bool.and_eq_true] at e
    rw [toPl]
    exact .cons (Rep.dp r n e.1) (Reps.dp t n e.2)
end
theorem Vw.dp {v : V} {d : D} (x : Vw K H b G v d) (e : shp d = true) : Dp K.f H v (toP d) := by
  cases x with
  | rep r => exact r.dp _ e
  | top q t =>
    cases t with
    | lst h r => rw [toP]; exact .lst (SqL.of h) (r.dp 59 (by simpa [shp, sh] using e))
    | dct h r => simp [shp, sh] at e
end
theorem eqD_some {x y : D} {k : Bool} (h : eqD x y = some k) : shp x = true ∧ shp y = true ∧ k = PyData.eqv (toP x) (toP y) := by
  unfold eqD at h
  split at h
  · rename_i e
    rw [Bool.and_eq_true] at e
    exact ⟨e.1, e.2, by rw [← eqv_toP x y ⟨_, e.1⟩ ⟨_, e.2⟩]; exact (Option.some.inj h).symm⟩
  · cases h
end Rw

set_option maxHeartbeats 1000000
/-! L1c: operators, comparisons. -/
namespace Rw
open PySem PySem.Spec PyProof.Rows L2

abbrev kx (X : Cx) : Kx := ⟨X.K, X.prog, X.w⟩
/-- a two-place operation, as the interpreter does it -/
def r2 (K : Kx) (ca : Nat → Addr) (f : D → D → Hp → RV) : R2 := fun x y H Q => ∃ da db h b G E cap, VS K H b G h ∧ Vw K H b G x da ∧ Vw K H b G y db ∧ Run K ca cap H b G (f da db h) Q E
def pyOp : Op → Operator
  | .add => .Add | .sub => .Sub | .mul => .Mult | .fdiv => .FloorDiv | .mod => .Mod | .pow => .Pow | .shl => .LShift | .shr => .RShift
def pyCm : Cm → CmpOp
  | .eq => .Eq | .ne => .NotEq | .lt => .Lt | .le => .LtE | .gt => .Gt | .ge => .GtE | .is_ => .Is | .isnt => .IsNot | .in_ => .In | .notin => .NotIn
theorem maxLen_line : maxLen ≤ sizeLine := by rw [sizeLine_eq]; decide
theorem le_line {n : Nat} (h : n ≤ maxLen) : n ≤ sizeLine := Nat.le_trans h maxLen_line
theorem lt_line {n : Nat} (h : n < maxLen) : n < sizeLine := Nat.lt_of_lt_of_le h maxLen_line

section
variable {X : Cx} {ca : Nat → Addr}
theorem mulOk_ok {i j : Int} (h : mulOk i j = true) : IntMulOk i j := by
  unfold mulOk at h
  rw [Bool.or_eq_true, Bool.or_eq_true] at h
  rcases h with (h | h) | h
  · have h := of_decide_eq_true h
    exact CMul.ok (.inl (by omega))
  · have h := of_decide_eq_true h
    exact CMul.ok (.inr (by omega))
  · have h := of_decide_eq_true h
    exact CMulW.ok (show i.natAbs.log2 + j.natAbs.log2 < 1000000 from h)
theorem divOk_ok {i j : Int} (h : divOk j = true) {prog : Program} {w : World} {A : Around} {E : Value → Shared → Prop} {s : Shared} {t u : Tok} {Q : Value → Shared → Prop}
    (q : Q (.int (i.fdiv j) s.toks) { s with toks := s.toks + 1 }) : wpAny (model prog w) A (binaryOp .FloorDiv (.int i t) (.int j u)) Q E s := by
  unfold divOk at h
  rw [Bool.and_eq_true, Bool.or_eq_true, Bool.and_eq_true] at h
  obtain ⟨h0, h1⟩ := h
  have h0 : j ≠ 0 := by simpa using h0
  rcases h1 with h1 | ⟨h1, h2⟩
  · exact floordiv_int h0 q (.inl (PyProof.noPylong_small (of_decide_eq_true h1)))
  · have h2 := of_decide_eq_true h2
    exact floordiv_int h0 q (.inl (PyProof.noPylong_of_log2 h2))
variable {pins : List (Addr × Obj)} {s : Shared} {σ : L2.St} {H : HpC} {b : List Addr} {G : Addr → Prop} {h : Hp}
theorem ep_val {cap : Bool} {Q : VK} {d : D} {v : V} {u : Value} {s' : Shared} {E : Value → Option Addr → HpC → Prop} (I : Inv X pins σ H s') (rv : RelV v u) (vs : VS (kx X) H b G h) (run : Run (kx X) ca cap H b G (.ok (d, false, h)) Q E) (r : Rep (kx X) H (wof b G) b v d) : EP X pins σ Q u s' := ⟨v, H, I, rv, run.val vs r⟩
theorem ep_int {cap : Bool} {Q : VK} {k : Int} {t : Tok} {s' : Shared} {E : Value → Option Addr → HpC → Prop} (I : Inv X pins σ H s') (vs : VS (kx X) H b G h) (run : Run (kx X) ca cap H b G (.ok (.int k, false, h)) Q E) : EP X pins σ Q (.int k t) s' := ⟨.int k, H, I, ⟨_, rfl⟩, run.val vs (.int _)⟩
theorem ep_bl {cap : Bool} {Q : VK} {k : Bool} {s' : Shared} {E : Value → Option Addr → HpC → Prop} (I : Inv X pins σ H s') (vs : VS (kx X) H b G h) (run : Run (kx X) ca cap H b G (.ok (.bl k, false, h)) Q E) : EP X pins σ Q (.bool k) s' := ⟨.bl k, H, I, rfl, run.val vs (.bl _)⟩
theorem ep_str {cap : Bool} {Q : VK} {k : Str} {t : Tok} {s' : Shared} {E : Value → Option Addr → HpC → Prop} (I : Inv X pins σ H s') (vs : VS (kx X) H b G h) (run : Run (kx X) ca cap H b G (.ok (.str k, false, h)) Q E) : EP X pins σ Q (.str k t) s' := ⟨.str k, H, I, ⟨_, rfl⟩, run.val vs (.str _)⟩
theorem op_sub' : OpR X (binaryOp .Sub) (r2 (kx X) ca (evOp .sub)) := by
  intro pins s σ H x y v u Q I rx ry ⟨da, db, h, b, G, E, cap, vs, va, vb, run⟩
  cases da with
  | int i =>
    cases db with
    | int j =>
      cases va.int; cases vb.int
      obtain ⟨t, rfl⟩ := rx
      obtain ⟨t', rfl⟩ := ry
      exact sub_int (ep_int (I.tok _) vs run)
    | _ => exact False.elim run
  | _ => exact False.elim run
theorem op_mul' : OpR X (binaryOp .Mult) (r2 (kx X) ca (evOp .mul)) := by
  intro pins s σ H x y v u Q I rx ry ⟨da, db, h, b, G, E, cap, vs, va, vb, run⟩
  cases da with
  | int i =>
    cases db with
    | int j =>
      cases va.int; cases vb.int
      obtain ⟨t, rfl⟩ := rx
      obtain ⟨t', rfl⟩ := ry
      simp only [evOp] at run
      split at run
      · rename_i e
        exact mul_int (ep_int (I.tok _) vs run) (mulOk_ok e)
      · exact False.elim run
    | _ => exact False.elim run
  | _ => exact False.elim run
theorem op_fdiv' : OpR X (binaryOp .FloorDiv) (r2 (kx X) ca (evOp .fdiv)) := by
  intro pins s σ H x y v u Q I rx ry ⟨da, db, h, b, G, E, cap, vs, va, vb, run⟩
  cases da with
  | int i =>
    cases db with
    | int j =>
      cases va.int; cases vb.int
      obtain ⟨t, rfl⟩ := rx
      obtain ⟨t', rfl⟩ := ry
      simp only [evOp] at run
      split at run
      · rename_i e
        exact divOk_ok e (ep_int (I.tok _) vs run)
      · exact False.elim run
    | _ => exact False.elim run
  | _ => exact False.elim run
theorem op_mod' : OpR X (binaryOp .Mod) (r2 (kx X) ca (evOp .mod)) := by
  intro pins s σ H x y v u Q I rx ry ⟨da, db, h, b, G, E, cap, vs, va, vb, run⟩
  cases da with
  | int i =>
    cases db with
    | int j =>
      cases va.int; cases vb.int
      obtain ⟨t, rfl⟩ := rx
      obtain ⟨t', rfl⟩ := ry
      simp only [evOp] at run
      split at run
      · exact False.elim run
      · rename_i e
        exact mod_int' (by simpa using e) (ep_int (I.tok _) vs run)
    | _ => exact False.elim run
  | _ => exact False.elim run
theorem powOk_ok {i j : Int} (h : powOk i j = true) : 0 ≤ j ∧ j ≤ 1000000 ∧ i.natAbs < 2 ^ 64 := by
  unfold powOk at h
  rw [Bool.and_eq_true, Bool.and_eq_true] at h
  exact ⟨of_decide_eq_true h.1.1, of_decide_eq_true h.1.2, of_decide_eq_true h.2⟩
theorem op_pow' : OpR X (binaryOp .Pow) (r2 (kx X) ca (evOp .pow)) := by
  intro pins s σ H x y v u Q I rx ry ⟨da, db, h, b, G, E, cap, vs, va, vb, run⟩
  cases da with
  | int i =>
    cases db with
    | int j =>
      cases va.int; cases vb.int
      obtain ⟨t, rfl⟩ := rx
      obtain ⟨t', rfl⟩ := ry
      simp only [evOp] at run
      split at run
      · rename_i e
        obtain ⟨e1, e2, e3⟩ := powOk_ok e
        exact pow_int_small e1 e2 e3 (ep_int (I.tok _) vs run)
      · exact False.elim run
    | _ => exact False.elim run
  | _ => exact False.elim run
theorem op_shl' : OpR X (binaryOp .LShift) (r2 (kx X) ca (evOp .shl)) := by
  intro pins s σ H x y v u Q I rx ry ⟨da, db, h, b, G, E, cap, vs, va, vb, run⟩
  cases da with
  | int i =>
    cases db with
    | int j =>
      cases va.int; cases vb.int
      obtain ⟨t, rfl⟩ := rx
      obtain ⟨t', rfl⟩ := ry
      simp only [evOp] at run
      split at run
      · rename_i e
        obtain ⟨e1, e2, e3⟩ := powOk_ok e
        exact lshift_int_small e1 e2 e3 (ep_int (I.tok _) vs run)
      · exact False.elim run
    | _ => exact False.elim run
  | _ => exact False.elim run
theorem op_shr' : OpR X (binaryOp .RShift) (r2 (kx X) ca (evOp .shr)) := by
  intro pins s σ H x y v u Q I rx ry ⟨da, db, h, b, G, E, cap, vs, va, vb, run⟩
  cases da with
  | int i =>
    cases db with
    | int j =>
      cases va.int; cases vb.int
      obtain ⟨t, rfl⟩ := rx
      obtain ⟨t', rfl⟩ := ry
      simp only [evOp] at run
      split at run
      · rename_i e
        have e := of_decide_eq_true e
        exact rshift_int e (by rw [Int.fdiv_eq_ediv_of_nonneg i (two_pow_nn _)]; exact ep_int (I.tok _) vs run)
      · exact False.elim run
    | _ => exact False.elim run
  | _ => exact False.elim run
theorem emptyV {vs : List V} {us : List Value} (r : Vals vs us) : us = [] ↔ vs = [] := by cases r <;> simp
theorem add_lists' {cap : Bool} {da db : D} {x y : V} {v u : Value} {Q : VK} {E : Value → Option Addr → HpC → Prop} (I : Inv X pins σ H s) (rx : RelV x v) (ry : RelV y u) (vs : VS (kx X) H b G h) (va : Vw (kx X) H b G x da) (vb : Vw (kx X) H b G y db) (run : Run (kx X) ca cap H b G (addL da db h) Q E) :
    wpAny (model X.prog X.w) X.A (binaryOp .Add v u) (EP X pins σ Q) X.xe s := by
  unfold addL at run
  split at run
  · rename_i xs ys e1 e2
    split at run
    · rename_i hz
      obtain ⟨a, ws, rfl, ha, ra⟩ := va.list vs e1
      obtain ⟨c, zs, rfl, hc, rc⟩ := vb.list vs e2
      cases rx; cases ry
      obtain ⟨i1, r1, pl1, _⟩ := I.list ha
      obtain ⟨i2, r2, pl2, _⟩ := I.list hc
      obtain ⟨⟨k1, k2, k3, k4⟩, ho, hcl, n, hd⟩ := id pl1.isList
      obtain ⟨⟨l1, l2, l3, l4⟩, ho2, hcl2, n2, hd2⟩ := id pl2.isList
      simp only at hcl hd hcl2 hd2
      subst hcl hd hcl2 hd2
      have z1 := ra.length; have z2 := rc.length; have z3 := r1.length; have z4 := r2.length
      have hz' : ws.length + zs.length ≤ sizeLine := by rw [z1, z2]; exact le_line hz
      refine concat_meets ⟨_, ho, rfl⟩ ⟨_, ho2, rfl⟩ noFill_list_add seq_list_add PySem.F.slot_list_add PySem.F.entry_list_add (PySem.F.args_list_add_2 _ _)
        (list_addW a c i1.toArray i2.toArray n n2 k2 l2 k4 l4 (by rw [List.size_toArray, List.size_toArray]; omega)) ⟨ho, ho2, ?_⟩
      have e : i1.toArray ++ i2.toArray = (i1 ++ i2).toArray := by simp
      rw [e]
      exact ⟨.ref s.heap.objs.size, _, I.lnew (t' := s.toks) (r1.append r2) (by rw [List.length_append]; exact hz'), rfl, run.newL vs (ra.app rc) _ I.fresh⟩
    · exact False.elim run
  · exact False.elim run
theorem op_add' : OpR X (binaryOp .Add) (r2 (kx X) ca (evOp .add)) := by
  intro pins s σ H x y v u Q I rx ry ⟨da, db, h, b, G, E, cap, vs, va, vb, run⟩
  cases da with
  | int i =>
    cases db with
    | int j =>
      cases va.int; cases vb.int
      obtain ⟨t, rfl⟩ := rx
      obtain ⟨t', rfl⟩ := ry
      exact add_int (ep_int (I.tok _) vs run)
    | _ => exact add_lists' I rx ry vs va vb run
  | str i =>
    cases db with
    | str j =>
      cases va.str; cases vb.str
      obtain ⟨t, rfl⟩ := rx
      obtain ⟨t', rfl⟩ := ry
      simp only [evOp] at run
      split at run
      · rename_i e
        exact add_str (fun _ _ => ep_str (I.tok _) vs run) (le_line e)
      · exact False.elim run
    | _ => exact add_lists' I rx ry vs va vb run
  | tup xs =>
    cases db with
    | tup ys =>
      simp only [evOp] at run
      split at run
      · rename_i hz
        have va' := va
        have vb' := vb
        obtain ⟨a, ws, rfl, ha, ra⟩ := va.tup
        obtain ⟨c, zs, rfl, hc, rc⟩ := vb.tup
        cases rx; cases ry
        obtain ⟨i1, r1, p1, _⟩ := I.tuple ha.sq
        obtain ⟨i2, r2, p2, _⟩ := I.tuple hc.sq
        have z1 := ra.length; have z2 := rc.length; have z3 := r1.length; have z4 := r2.length
        have hz' : ws.length + zs.length ≤ sizeLine := by rw [z1, z2]; exact le_line hz
        by_cases hw : ws = []
        · subst hw
          have hx : xs = [] := List.eq_nil_of_length_eq_zero z1.symm
          subst hx
          have hi : i1 = [] := List.eq_nil_of_length_eq_zero z3.symm
          subst hi
          exact cat_tup0 p1 p2 ⟨.ref c, H, I, rfl, run.val vs vb'.tupR⟩
        · refine HT.cat_tup p1 p2 (fun z => hw ((emptyV r1).mp z)) (fun z => ?_) (fun z => ?_) (by omega)
          · have hy : ys = [] := List.eq_nil_of_length_eq_zero (by rw [← z2, (emptyV r2).mp z]; rfl)
            subst hy
            rw [List.append_nil] at run
            exact ⟨.ref a, H, I, rfl, run.val vs va'.tupR⟩
          · obtain ⟨o, ho, hf, J⟩ := laidT (t' := s.toks) I (r1.append r2) (by rw [List.length_append]; exact hz')
            exact ⟨.ref s.heap.objs.size, _, J, rfl, run.newT vs (ra.app rc) _ _ hf ho⟩
      · exact False.elim run
    | _ => exact add_lists' I rx ry vs va vb run
  | _ => exact add_lists' I rx ry vs va vb run
theorem op_all (o : Op) : OpR X (binaryOp (pyOp o)) (r2 (kx X) ca (evOp o)) := by
  cases o
  · exact op_add'
  · exact op_sub'
  · exact op_mul'
  · exact op_fdiv'
  · exact op_mod'
  · exact op_pow'
  · exact op_shl'
  · exact op_shr'
end
end Rw

set_option maxHeartbeats 1000000
/-! L1d: comparisons. -/
namespace Rw
open PySem PySem.Spec PyProof.Rows L2

/-- an answer that is yes or no -/
def ans (f : D → D → Hp → Option Bool) : D → D → Hp → RV := fun a b h => (R.of (f a b h)).bind fun k => .ok (.bl k, false, h)
section
variable {X : Cx} {ca : Nat → Addr} {pins : List (Addr × Obj)} {s : Shared} {σ : L2.St} {H : HpC} {b : List Addr} {G : Addr → Prop} {h : Hp}
theorem ans_run {cap : Bool} {o : Option Bool} {Q : VK} {E : Value → Option Addr → HpC → Prop} (run : Run (kx X) ca cap H b G ((R.of o).bind fun k => .ok (.bl k, false, h)) Q E) : ∃ k, o = some k ∧ Run (kx X) ca cap H b G (.ok (.bl k, false, h)) Q E := by
  cases o with
  | some k => exact ⟨k, rfl, run⟩
  | none => exact False.elim run
theorem dreads (I : Inv X pins σ H s) {x : V} {v : Value} {d : D} (rx : RelV x v) (va : Vw (kx X) H b G x d) (e : shp d = true) : ∃ as, Reads s.heap v (toP d) as := Dp.reads I (toP d) x v (va.dp e) rx
mutual
theorem alike_toP : ∀ (x y : D), alike x y = true → PySem.W.alike (toP x) (toP y) = true
  | .bl _, y, h => by cases y <;> simp [alike] at h; simp [toP, PySem.W.alike]
  | .int _, y, h => by cases y <;> simp [alike] at h; simp [toP, PySem.W.alike]
  | .str _, y, h => by cases y <;> simp [alike] at h; simp [toP, PySem.W.alike]
  | .tup xs, y, h => by
    cases y <;> simp [alike] at h
    rename_i ys
    simp only [toP, PySem.W.alike]
    exact alikes_toP xs ys h
  | .non, y, h => by cases y <;> simp [alike] at h
  | .lst _, y, h => by cases y <;> simp [alike] at h
  | .dct _ _, y, h => by cases y <;> simp [alike] at h
  | .set _, y, h => by cases y <;> simp [alike] at h
  | .ref _, y, h => by cases y <;> simp [alike] at h
theorem alikes_toP : ∀ (xs ys : List D), alikes xs ys = true → PySem.W.alikeAll (toPl xs) (toPl ys) = true
  | [], ys, _ => by cases ys <;> simp [toPl, PySem.W.alikeAll]
  | _ :: _, [], _ => by simp [toPl, PySem.W.alikeAll]
  | x :: xs, y :: ys, h => by
    simp only [alikes, Bool.and_eq_true] at h
    simp only [toPl, PySem.W.alikeAll, Bool.and_eq_true]
    exact ⟨alike_toP x y h.1, alikes_toP xs ys h.2⟩
end
mutual
theorem eqv_alike : ∀ (x y : D), alike x y = true → eqv x y = PyData.eqv (toP x) (toP y)
  | .bl _, y, h => by cases y <;> simp [alike] at h; simp [toP, eqv, PyData.eqv]
  | .int _, y, h => by cases y <;> simp [alike] at h; simp [toP, eqv, PyData.eqv]
  | .str _, y, h => by cases y <;> simp [alike] at h; simp [toP, eqv, PyData.eqv]
  | .tup xs, y, h => by
    cases y <;> simp [alike] at h
    rename_i ys
    simp only [toP, eqv, PyData.eqv]
    exact eqvs_alike xs ys h
  | .non, y, h => by cases y <;> simp [alike] at h
  | .lst _, y, h => by cases y <;> simp [alike] at h
  | .dct _ _, y, h => by cases y <;> simp [alike] at h
  | .set _, y, h => by cases y <;> simp [alike] at h
  | .ref _, y, h => by cases y <;> simp [alike] at h
theorem eqvs_alike : ∀ (xs ys : List D), alikes xs ys = true → eqvs xs ys = PyData.eqvAll (toPl xs) (toPl ys)
  | [], ys, _ => by cases ys <;> simp [eqvs, toPl, PyData.eqvAll]
  | _ :: _, [], _ => by simp [eqvs, toPl, PyData.eqvAll]
  | x :: xs, y :: ys, h => by
    simp only [alikes, Bool.and_eq_true] at h
    simp only [eqvs, toPl, PyData.eqvAll, eqv_alike x y h.1, eqvs_alike xs ys h.2]
end
theorem rowLt_nn : PySem.W.rowLt [] [] = false := by decide
theorem rowLt_nc (y : PyData) (ys : List PyData) : PySem.W.rowLt [] (y :: ys) = true := by
  unfold PySem.W.rowLt
  simp only [PySem.W.keyToksAll]
  rw [PySem.W.lex_atom (by simp), PySem.W.lex_one]
  decide
theorem rowLt_cn (x : PyData) (xs : List PyData) : PySem.W.rowLt (x :: xs) [] = false := by
  unfold PySem.W.rowLt
  simp only [PySem.W.keyToksAll]
  rw [PySem.W.lex_atom (by simp), PySem.W.lex_one]
  decide
theorem rowLt_cc {x y : PyData} (h : PySem.W.alike x y = true) (xs ys : List PyData) : PySem.W.rowLt (x :: xs) (y :: ys) = if PyData.eqv x y = true then PySem.W.rowLt xs ys else PySem.W.dataLt x y := PySem.W.dataLt_cons h xs ys
mutual
theorem ltv_alike : ∀ (x y : D), alike x y = true → ltv x y = PySem.W.dataLt (toP x) (toP y)
  | .bl a, y, h => by
    cases y <;> simp [alike] at h
    rename_i b
    simp only [toP, ltv, PySem.W.dataLt_bool]
    cases a <;> cases b <;> simp [b2i]
  | .int _, y, h => by cases y <;> simp [alike] at h; simp [toP, ltv, PySem.W.dataLt_int]
  | .str _, y, h => by cases y <;> simp [alike] at h; simp [toP, ltv, PySem.W.dataLt_str]
  | .tup xs, y, h => by
    cases y <;> simp [alike] at h
    rename_i ys
    simp only [toP, ltv, PySem.W.dataLt_tuple]
    exact ltvs_alike xs ys h
  | .non, y, h => by cases y <;> simp [alike] at h
  | .lst _, y, h => by cases y <;> simp [alike] at h
  | .dct _ _, y, h => by cases y <;> simp [alike] at h
  | .set _, y, h => by cases y <;> simp [alike] at h
  | .ref _, y, h => by cases y <;> simp [alike] at h
theorem ltvs_alike : ∀ (xs ys : List D), alikes xs ys = true → ltvs xs ys = PySem.W.rowLt (toPl xs) (toPl ys)
  | [], [], _ => by simp only [ltvs, toPl]; exact rowLt_nn.symm
  | [], y :: ys, _ => by simp only [ltvs, toPl]; exact (rowLt_nc _ _).symm
  | x :: xs, [], _ => by simp only [ltvs, toPl]; exact (rowLt_cn _ _).symm
  | x :: xs, y :: ys, h => by
    simp only [alikes, Bool.and_eq_true] at h
    simp only [ltvs, toPl]
    rw [rowLt_cc (alike_toP x y h.1), eqv_alike x y h.1, ltv_alike x y h.1, ltvs_alike xs ys h.2]
end
theorem toP_nn {x y : D} (h : alike x y = true) : toP x ≠ .none := by cases x <;> simp [alike, toP] at h ⊢
theorem ltD_some {x y : D} {k : Bool} (e : ltD x y = some k) : shp x = true ∧ shp y = true ∧ PySem.W.alike (toP x) (toP y) = true ∧ toP x ≠ .none ∧ k = PySem.W.dataLt (toP x) (toP y) := by
  unfold ltD at e
  split at e
  · rename_i q
    rw [Bool.and_eq_true, Bool.and_eq_true] at q
    cases e
    exact ⟨q.1.1, q.1.2, alike_toP x y q.2, toP_nn q.2, ltv_alike x y q.2⟩
  · cases e
theorem cm_eq (hu : X.A.units + 64 < cLine) : OpR X (compareOp .Eq) (r2 (kx X) ca (ans (evCm .eq))) := by
  intro pins s σ H x y v u Q I rx ry ⟨da, db, h, b, G, E, cap, vs, va, vb, run⟩
  obtain ⟨k, e, run⟩ := ans_run run
  obtain ⟨e1, e2, rfl⟩ := eqD_some e
  obtain ⟨as, r1⟩ := dreads I rx va e1
  obtain ⟨bs, r2⟩ := dreads I ry vb e2
  exact SeqAt.compareEq_shaped r1 r2 (shp_shaped e1) (shp_shaped e2) hu (ep_bl I vs run)
theorem cm_ne (hu : X.A.units + 64 < cLine) : OpR X (compareOp .NotEq) (r2 (kx X) ca (ans (evCm .ne))) := by
  intro pins s σ H x y v u Q I rx ry ⟨da, db, h, b, G, E, cap, vs, va, vb, run⟩
  obtain ⟨k, e, run⟩ := ans_run run
  obtain ⟨k0, e0, rfl⟩ := Option.map_eq_some_iff.mp (show (eqD da db).map (!·) = some k from e)
  obtain ⟨e1, e2, rfl⟩ := eqD_some e0
  obtain ⟨as, r1⟩ := dreads I rx va e1
  obtain ⟨bs, r2⟩ := dreads I ry vb e2
  exact SeqAt.compareNe_shaped r1 r2 (shp_shaped e1) (shp_shaped e2) hu (ep_bl I vs run)
theorem cm_lt (hu : X.A.units + 64 < cLine) : OpR X (compareOp .Lt) (r2 (kx X) ca (ans (evCm .lt))) := by
  intro pins s σ H x y v u Q I rx ry ⟨da, db, h, b, G, E, cap, vs, va, vb, run⟩
  obtain ⟨k, e, run⟩ := ans_run run
  have gen : ltD da db = some k → wpAny (model X.prog X.w) X.A (compareOp .Lt v u) (EP X pins σ Q) X.xe s := fun e => by
    obtain ⟨e1, e2, e3, e4, e5⟩ := ltD_some e
    obtain ⟨as, r1⟩ := dreads I rx va e1
    obtain ⟨bs, r2⟩ := dreads I ry vb e2
    have d1 := (sh_lay 60 da e1).2
    exact PySem.W.rcLt_alike (toP da) (toP db) X.A s v u as bs r1 r2 e3 e4 (by omega) X.prog X.w X.xe _ (by rw [← e5]; exact ep_bl I vs run)
  cases da with
  | int i =>
    cases db with
    | int j =>
      cases va.int; cases vb.int
      obtain ⟨t, rfl⟩ := rx
      obtain ⟨t', rfl⟩ := ry
      have e : some (decide (i < j)) = some k := e
      cases e
      exact lt_int (ep_bl I vs run)
    | _ => exact gen e
  | _ => exact gen e
theorem cm_le : OpR X (compareOp .LtE) (r2 (kx X) ca (ans (evCm .le))) := by
  intro pins s σ H x y v u Q I rx ry ⟨da, db, h, b, G, E, cap, vs, va, vb, run⟩
  obtain ⟨k, e, run⟩ := ans_run run
  cases da with
  | int i =>
    cases db with
    | int j =>
      cases va.int; cases vb.int
      obtain ⟨t, rfl⟩ := rx
      obtain ⟨t', rfl⟩ := ry
      have e : some (decide (i ≤ j)) = some k := e
      cases e
      exact le_int (ep_bl I vs run)
    | _ => simp [evCm] at e
  | _ => simp [evCm] at e
theorem cm_gt : OpR X (compareOp .Gt) (r2 (kx X) ca (ans (evCm .gt))) := by
  intro pins s σ H x y v u Q I rx ry ⟨da, db, h, b, G, E, cap, vs, va, vb, run⟩
  obtain ⟨k, e, run⟩ := ans_run run
  cases da with
  | int i =>
    cases db with
    | int j =>
      cases va.int; cases vb.int
      obtain ⟨t, rfl⟩ := rx
      obtain ⟨t', rfl⟩ := ry
      have e : some (decide (j < i)) = some k := e
      cases e
      exact gt_int (ep_bl I vs run)
    | _ => simp [evCm] at e
  | _ => simp [evCm] at e
theorem cm_ge : OpR X (compareOp .GtE) (r2 (kx X) ca (ans (evCm .ge))) := by
  intro pins s σ H x y v u Q I rx ry ⟨da, db, h, b, G, E, cap, vs, va, vb, run⟩
  obtain ⟨k, e, run⟩ := ans_run run
  cases da with
  | int i =>
    cases db with
    | int j =>
      cases va.int; cases vb.int
      obtain ⟨t, rfl⟩ := rx
      obtain ⟨t', rfl⟩ := ry
      have e : some (decide (j ≤ i)) = some k := e
      cases e
      exact ge_int (ep_bl I vs run)
    | _ => simp [evCm] at e
  | _ => simp [evCm] at e
theorem isNone_v {d : D} {x : V} {v : Value} (va : Vw (kx X) H b G x d) (rx : RelV x v) : (v == Value.none) = isNone d := by
  rw [rx.none_iff]
  cases va with
  | rep r => cases r <;> simp [isNone]
  | top q t => cases t <;> simp [isNone]
theorem cm_is : OpR X (compareOp .Is) (r2 (kx X) ca (ans (evCm .is_))) := by
  intro pins s σ H x y v u Q I rx ry ⟨da, db, h, b, G, E, cap, vs, va, vb, run⟩
  obtain ⟨k, e, run⟩ := ans_run run
  cases db with
  | non =>
    cases vb.non
    cases ry
    have e : some (isNone da) = some k := e
    cases e
    exact is_none_gen (by rw [isNone_v va rx]; exact ep_bl I vs run)
  | bl j =>
    cases da with
    | bl i =>
      cases vb.bl; cases va.bl
      have e : some (i == j) = some k := e
      cases e
      refine op_isBl pins s σ H _ _ v u Q I rx ry ⟨i, j, rfl, rfl, ?_⟩
      have q := run.val vs (.bl _)
      rwa [Bool.beq_eq_decide_eq] at q
    | _ => simp [evCm] at e
  | _ => simp [evCm] at e
theorem cm_isnt : OpR X (compareOp .IsNot) (r2 (kx X) ca (ans (evCm .isnt))) := by
  intro pins s σ H x y v u Q I rx ry ⟨da, db, h, b, G, E, cap, vs, va, vb, run⟩
  obtain ⟨k, e, run⟩ := ans_run run
  cases db with
  | non =>
    cases vb.non
    cases ry
    have e : some (!isNone da) = some k := e
    cases e
    exact isnot_none_gen (by rw [isNone_v va rx]; exact ep_bl I vs run)
  | bl j =>
    cases da with
    | bl i =>
      cases vb.bl; cases va.bl
      have e : some (i != j) = some k := e
      cases e
      refine op_notBl pins s σ H _ _ v u Q I rx ry ⟨i, j, rfl, rfl, ?_⟩
      have q := run.val vs (.bl _)
      rwa [bne, Bool.beq_eq_decide_eq] at q
    | _ => simp [evCm] at e
  | _ => simp [evCm] at e
theorem inAny_some {x : D} {xs : List D} {k : Bool} (e : inAny x xs = some k) : shp x = true ∧ shs 60 xs = true ∧ k = (toPl xs).any fun y => y.eqv (toP x) := by
  unfold inAny at e
  split at e
  · rename_i q
    rw [Bool.and_eq_true] at q
    refine ⟨q.1, by rw [shs_all]; exact q.2, ?_⟩
    cases e
    rw [toPl_map, List.any_map]
    have q2 := List.all_eq_true.mp q.2
    rw [Bool.eq_iff_iff, List.any_eq_true, List.any_eq_true]
    constructor
    · rintro ⟨y, hy, z⟩
      exact ⟨y, hy, by rw [Function.comp_apply, ← eqv_toP y x ⟨_, q2 y hy⟩ ⟨_, q.1⟩]; exact z⟩
    · rintro ⟨y, hy, z⟩
      exact ⟨y, hy, by rw [eqv_toP y x ⟨_, q2 y hy⟩ ⟨_, q.1⟩]; exact z⟩
  · cases e
theorem seq_reads (I : Inv X pins σ H s) {vs : List V} {ds : List D} {us : List Value} (r : Vals vs us) (q : Reps (kx X) H (wof b G) b vs ds) (e : shs 60 ds = true) : ∃ as, ReadsAll s.heap us (toPl ds) as := Dp.readsAll I (toPl ds) vs us (q.dp 60 e) r
theorem list_reads (I : Inv X pins σ H s) {a : Addr} {vs : List V} {ds : List D} (l : SqL X.K H a vs) (q : Reps (kx X) H (wof b G) b vs ds) (e : shs 60 ds = true) : ∃ as, Reads s.heap (.ref a) (.list (toPl ds)) as := by
  obtain ⟨us, r, ⟨o, n, h1, h2, h3, h4⟩, _⟩ := I.list l
  obtain ⟨as, ra⟩ := seq_reads I r q e
  exact ⟨_, .list h1 h2 h4 (by simpa using ra)⟩
theorem tup_reads (I : Inv X pins σ H s) {a : Addr} {vs : List V} {ds : List D} (l : SqT X.K H a vs) (q : Reps (kx X) H (wof b G) b vs ds) (e : shs 60 ds = true) : ∃ as, Reads s.heap (.ref a) (.tuple (toPl ds)) as := by
  obtain ⟨us, r, ⟨o, h1, h2, n, h3⟩, _⟩ := I.tuple l
  obtain ⟨as, ra⟩ := seq_reads I r q e
  exact ⟨_, .tuple h1 h2 h3 (by simpa using ra)⟩
theorem key_of_kD {k : Key} {x : V} (va : Vw (kx X) H b G x (kD k)) : x = kV k := by
  cases k with
  | inl i => exact va.int
  | inr z => exact va.str
theorem eqv_key (k j : Key) : eqv (kD k) (kD j) = decide (k = j) := by
  cases k <;> cases j <;> simp [kD, eqv] <;> rfl
theorem kD_of {d : D} (e : keyOk d = true) : ∃ k, d = kD k := by
  cases d <;> first | exact ⟨.inl _, rfl⟩ | exact ⟨.inr _, rfl⟩ | cases e
def hasK (k : Key) (ks : List Key) : Bool := (ks.map kD).any fun y => eqv y (kD k)
theorem hasK_mem (k : Key) : ∀ ks : List Key, hasK k ks = true ↔ k ∈ ks
  | [] => by simp [hasK]
  | j :: ks => by
    have q := hasK_mem k ks
    unfold hasK at q ⊢
    rw [List.map_cons, List.any_cons, Bool.or_eq_true, q, eqv_key, List.mem_cons, decide_eq_true_iff]
    exact or_congr_left ⟨fun e => e.symm, fun e => e.symm⟩
theorem valV_some (k : Key) : ∀ kvs : List (Key × V), (valV kvs k).isSome = hasK k (kvs.map (·.1))
  | [] => by rw [valV_nil]; rfl
  | p :: r => by
    have q := valV_some k r
    unfold hasK at q ⊢
    rw [List.map_cons, List.map_cons, List.any_cons, eqv_key, ← q]
    by_cases e : p.1 = k
    · rw [valV_pos e]; simp [e]
    · rw [valV_neg e]; simp [e]
theorem inAny_key {k : Key} {ks : List Key} {z : Bool} (e : inAny (kD k) (ks.map kD) = some z) : z = hasK k ks := by
  unfold inAny at e
  split at e
  · cases e; rfl
  · cases e
theorem in_core (hu : X.A.units + 80 < cLine) (neg : Bool) {x c : V} {v u : Value} {dx dc : D} {k : Bool} {Q : VK} (I : Inv X pins σ H s) (rx : RelV x v) (ry : RelV c u) (vs : VS (kx X) H b G h) (va : Vw (kx X) H b G x dx) (vb : Vw (kx X) H b G c dc)
    (e : evIn dx dc h = some k) (hq : Q (.bl (if neg then !k else k)) H) : wpAny (model X.prog X.w) X.A (compareOp (if neg then .NotIn else .In) v u) (EP X pins σ Q) X.xe s := by
  have fin : EP X pins σ Q (.bool (if neg then !k else k)) s := ⟨.bl _, H, I, rfl, hq⟩
  have seq : ∀ xs, seqOf h dc = some xs → inAny dx xs = some k → wpAny (model X.prog X.w) X.A (compareOp (if neg then .NotIn else .In) v u) (EP X pins σ Q) X.xe s := fun xs e1 e2 => by
    obtain ⟨s1, s2, s3⟩ := inAny_some e2
    obtain ⟨as, r1⟩ := dreads I rx va s1
    have l2 := shs_lay 60 xs s2
    have l1 := sh_lay 60 dx s1
    obtain ⟨a, ws, rfl, hc, rc⟩ := vb.seq vs e1
    cases ry
    rcases hc with hc | hc
    · obtain ⟨bs, r2⟩ := list_reads I hc rc s2
      cases neg with
      | false => exact SeqAt.in_list_reads r2 r1 l2.1 l1.1 (by omega) (by rw [← s3]; exact fin)
      | true => exact SeqAt.notIn_list_reads r2 r1 l2.1 l1.1 (by omega) (by rw [← s3]; exact fin)
    · obtain ⟨bs, r2⟩ := tup_reads I hc rc s2
      cases neg with
      | false => exact SeqAt.in_tuple_reads r2 r1 l2.1 l1.1 (by omega) (by rw [← s3]; exact fin)
      | true => exact SeqAt.notIn_tuple_reads r2 r1 l2.1 l1.1 (by omega) (by rw [← s3]; exact fin)
  have dict : ∀ ks ds, dictOf h dc = some (ks, ds) → keyOk dx = true → inAny dx ks = some k → wpAny (model X.prog X.w) X.A (compareOp (if neg then .NotIn else .In) v u) (EP X pins σ Q) X.xe s := fun ks ds e1 e0 e2 => by
    obtain ⟨a, kvs, rfl, hr, rfl, rd⟩ := vb.dict vs e1
    obtain ⟨j, rfl⟩ := kD_of e0
    have e3 := inAny_key (ks := kvs.map (·.1)) (by rw [List.map_map]; exact e2)
    rw [← valV_some j kvs] at e3
    subst e3
    cases key_of_kD va
    cases ry
    cases neg with
    | false => exact d_in (by omega) I (.inl ⟨kvs, j, hr, rfl, rfl⟩) rx fun s' J => ⟨.bl _, H, J, rfl, hq⟩
    | true => exact d_notIn (by omega) I (.inl ⟨kvs, j, hr, rfl, rfl⟩) rx fun s' J => ⟨.bl _, H, J, rfl, hq⟩
  have other : ∀ dc', dc' = dc → (match seqOf h dc with | some xs => inAny dx xs | none => match dictOf h dc with | some (ks, _) => if keyOk dx = true then inAny dx ks else none | none => none) = some k → wpAny (model X.prog X.w) X.A (compareOp (if neg then .NotIn else .In) v u) (EP X pins σ Q) X.xe s := fun _ _ e => by
    split at e
    · rename_i xs e1
      exact seq xs e1 e
    · split at e
      · rename_i ks ds e1
        split at e
        · rename_i e0
          exact dict ks ds e1 e0 e
        · cases e
      · cases e
  cases dc with
  | set xs =>
    have e : (if keyOk dx = true then inAny dx xs else none) = some k := e
    split at e
    · rename_i e0
      obtain ⟨j, rfl⟩ := kD_of e0
      cases vb with
      | top q t => cases t
      | rep r =>
        cases r with
        | @set a S ks hS nW hk hn =>
          have e3 := inAny_key e
          cases key_of_kD va
          cases ry
          have eS : S j = k := by
            rw [e3]
            exact Bool.eq_iff_iff.mpr ((hk j).trans (hasK_mem j ks).symm)
          subst eS
          cases neg with
          | false => exact or_sinK pins s σ H _ _ v _ Q I rx (show RelV (.ref a) (.ref a) from rfl) ⟨j, a, S, _, rfl, rfl, hS, hq⟩
          | true => exact or_snotinK pins s σ H _ _ v _ Q I rx (show RelV (.ref a) (.ref a) from rfl) ⟨j, a, S, _, rfl, rfl, hS, hq⟩
    · cases e
  | non => exact other _ rfl e
  | bl _ => exact other _ rfl e
  | int _ => exact other _ rfl e
  | str _ => exact other _ rfl e
  | tup _ => exact other _ rfl e
  | lst _ => exact other _ rfl e
  | dct _ _ => exact other _ rfl e
  | ref _ => exact other _ rfl e
theorem cm_in (hu : X.A.units + 80 < cLine) : OpR X (compareOp .In) (r2 (kx X) ca (ans (evCm .in_))) := by
  intro pins s σ H x y v u Q I rx ry ⟨da, db, h, b, G, E, cap, vs, va, vb, run⟩
  obtain ⟨k, e, run⟩ := ans_run run
  exact in_core hu false I rx ry vs va vb e (run.val vs (.bl _))
theorem cm_notin (hu : X.A.units + 80 < cLine) : OpR X (compareOp .NotIn) (r2 (kx X) ca (ans (evCm .notin))) := by
  intro pins s σ H x y v u Q I rx ry ⟨da, db, h, b, G, E, cap, vs, va, vb, run⟩
  obtain ⟨k, e, run⟩ := ans_run run
  obtain ⟨k0, e0, rfl⟩ := Option.map_eq_some_iff.mp (show (evIn da db h).map (!·) = some k from e)
  exact in_core hu true I rx ry vs va vb e0 (run.val vs (.bl _))
theorem cm_all (hu : X.A.units + 80 < cLine) (o : Cm) : OpR X (compareOp (pyCm o)) (r2 (kx X) ca (ans (evCm o))) := by
  cases o
  · exact cm_eq (by omega)
  · exact cm_ne (by omega)
  · exact cm_lt (by omega)
  · exact cm_le
  · exact cm_gt
  · exact cm_ge
  · exact cm_is
  · exact cm_isnt
  · exact cm_in hu
  · exact cm_notin hu
end
end Rw

set_option maxHeartbeats 1000000
/-! L1e: built-in functions. -/
namespace Rw
open PySem PySem.Spec PyProof.Rows L2

inductive Vws (K : Kx) (H : HpC) (b : List Addr) (G : Addr → Prop) : List V → List D → Prop
  | nil : Vws K H b G [] []
  | cons {v : V} {vs : List V} {d : D} {ds : List D} : Vw K H b G v d → Vws K H b G vs ds → Vws K H b G (v :: vs) (d :: ds)
section
variable {K : Kx} {H H' : HpC} {b b' : List Addr} {G G' : Addr → Prop} {h : Hp}
theorem Vws.ext (v : VS K H b G h) (x : Ext H b G H' b' G') (hG : ∀ a, G a → G' a) : ∀ {vs : List V} {ds : List D}, Vws K H b G vs ds → Vws K H' b' G' vs ds
  | _, _, .nil => .nil
  | _, _, .cons r t => .cons (r.ext v x hG) (Vws.ext v x hG t)
theorem Vws.one {xs : List V} {d : D} (x : Vws K H b G xs [d]) : ∃ v, xs = [v] ∧ Vw K H b G v d := by
  cases x with
  | cons r t => cases t; exact ⟨_, rfl, r⟩
theorem Vws.two {xs : List V} {d e : D} (x : Vws K H b G xs [d, e]) : ∃ v w, xs = [v, w] ∧ Vw K H b G v d ∧ Vw K H b G w e := by
  cases x with
  | cons r t =>
    cases t with
    | cons r2 t => cases t; exact ⟨_, _, rfl, r, r2⟩
end
/-- a built-in function, as the interpreter does it -/
def rB (K : Kx) (ca : Nat → Addr) (f : List D → Hp → RV) : List V → HpC → VK → Prop := fun xs H Q => ∃ ds h b G E cap, VS K H b G h ∧ Vws K H b G xs ds ∧ Run K ca cap H b G (f ds h) Q E
theorem ints_some : ∀ {ds : List D} {ns : List Int}, intsOf ds = some ns → ds = ns.map D.int
  | [], ns, e => by cases e; rfl
  | d :: ds, ns, e => by
    cases d with
    | int i =>
      simp only [intsOf] at e
      obtain ⟨m, e1, rfl⟩ := Option.map_eq_some_iff.mp e
      rw [ints_some e1]; rfl
    | _ => simp [intsOf] at e
theorem bools_some : ∀ {ds : List D} {ns : List Bool}, boolsOf ds = some ns → ds = ns.map D.bl
  | [], ns, e => by cases e; rfl
  | d :: ds, ns, e => by
    cases d with
    | bl i =>
      simp only [boolsOf] at e
      obtain ⟨m, e1, rfl⟩ := Option.map_eq_some_iff.mp e
      rw [bools_some e1]; rfl
    | _ => simp [boolsOf] at e
section
variable {K : Kx} {H : HpC} {W : Addr → Prop} {b : List Addr}
theorem reps_ints : ∀ {ns : List Int} {vs : List V}, Reps K H W b vs (ns.map D.int) → vs = ns.map V.int
  | [], _, r => by cases r; rfl
  | n :: ns, _, r => by
    cases r with
    | cons r t => cases r; rw [reps_ints t]; rfl
theorem reps_bls : ∀ {ns : List Bool} {vs : List V}, Reps K H W b vs (ns.map D.bl) → vs = ns.map V.bl
  | [], _, r => by cases r; rfl
  | n :: ns, _, r => by
    cases r with
    | cons r t => cases r; rw [reps_bls t]; rfl
end
theorem toPl_ints : ∀ ns : List Int, toPl (ns.map D.int) = ns.map PyData.int
  | [] => by simp [toPl]
  | n :: ns => by simp only [List.map_cons, toPl, toP, toPl_ints ns]
theorem shs_ints (ns : List Int) : shs 60 (ns.map D.int) = true := by
  rw [shs_all, List.all_eq_true]
  intro x hx
  obtain ⟨i, _, rfl⟩ := List.mem_map.mp hx
  simp [sh]
theorem alikeAll_ints (ns : List Int) : PySem.W.AlikeAll (ns.map PyData.int) := by
  refine ⟨fun x hx y hy => ?_, fun x hx => ?_⟩
  · obtain ⟨i, _, rfl⟩ := List.mem_map.mp hx
    obtain ⟨j, _, rfl⟩ := List.mem_map.mp hy
    simp [PySem.W.alike]
  · obtain ⟨i, _, rfl⟩ := List.mem_map.mp hx
    exact fun z => nomatch z
theorem depthAll_ints : ∀ ns : List Int, PyData.depthAll (ns.map PyData.int) = 0
  | [] => by simp [PyData.depthAll]
  | n :: ns => by simp [PyData.depthAll, PyData.depth, depthAll_ints ns]
section
variable {X : Cx} {ca : Nat → Addr} {pins : List (Addr × Obj)} {s : Shared} {σ : L2.St} {H : HpC} {b : List Addr} {G : Addr → Prop} {h : Hp}
theorem bad_case {cap : Bool} {Q : VK} {E : Value → Option Addr → HpC → Prop} {P : Prop} (run : Run (kx X) ca cap H b G .bad Q E) : P := False.elim run
/-- a list or tuple as it is looked at, on the heap -/
theorem seq_at {xs : List D} {d : D} {v : V} (I : Inv X pins σ H s) (vs : VS (kx X) H b G h) (va : Vw (kx X) H b G v d) (e : seqOf h d = some xs) :
    ∃ a ws us, v = .ref a ∧ (s.heap.IsList a us ∨ s.heap.IsTuple a us) ∧ Vals ws us.toList ∧ Reps (kx X) H (wof b G) b ws xs ∧ (SqL X.K H a ws ∨ SqT X.K H a ws) ∧ ws.length ≤ sizeLine := by
  obtain ⟨a, ws, rfl, hc, r⟩ := va.seq vs e
  rcases hc with hc | hc
  · obtain ⟨us, rv, p, hz⟩ := I.list hc
    exact ⟨a, ws, us.toArray, rfl, .inl p.isList, by simpa using rv, r, .inl hc, hz⟩
  · obtain ⟨us, rv, p, hz⟩ := I.tuple hc
    exact ⟨a, ws, us.toArray, rfl, .inr p, by simpa using rv, r, .inr hc, hz⟩
theorem b_len : CallR X (.builtin "len") (rB (kx X) ca (evB .len)) := by
  intro pins s σ H xs us Q I rv ⟨ds, h, b, G, E, cap, vs, vw, run⟩
  have gen : ∀ d v, ds = [d] → Vw (kx X) H b G v d → xs = [v] → Run (kx X) ca cap H b G (match seqOf h d with
    | some xs => .ok (.int xs.length, false, h)
    | none => match dictOf h d with
      | some (ks, _) => .ok (.int ks.length, false, h)
      | none => .bad) Q E → wpAny (model X.prog X.w) X.A (call (.builtin "len") us) (EP X pins σ Q) X.xe s := fun d v _ va exs run => by
    subst exs
    split at run
    · rename_i zs e
      obtain ⟨a, ws, rfl, hc, r⟩ := va.seq vs e
      refine call_len_seq pins s σ H [.ref a] us Q I rv ⟨a, ws, rfl, hc, ?_⟩
      rw [r.length]
      exact run.val vs (.int _)
    · split at run
      · rename_i ks ws e
        obtain ⟨a, kvs, rfl, hr, rfl, rd⟩ := va.dict vs e
        obtain ⟨u, rfl, ru⟩ := vals1 rv
        cases ru
        refine d_len I hr fun t s' I' => ⟨.int kvs.length, H, I', ⟨t, rfl⟩, ?_⟩
        have q := run.val vs (.int _)
        rwa [List.length_map] at q
      · exact False.elim run
  match ds, vw, run with
  | [], _, run => exact False.elim run
  | a :: c :: r, _, run => cases a <;> exact False.elim run
  | [d], vw, run =>
    obtain ⟨v, rfl, va⟩ := vw.one
    cases d with
    | str x =>
      simp only [evB] at run
      split at run
      · rename_i hz
        cases va.str
        exact call_len_str pins s σ H _ us Q I rv ⟨x, rfl, le_line hz, run.val vs (.int _)⟩
      · exact False.elim run
    | _ => exact gen _ _ rfl va rfl run
theorem b_abs : CallR X (.builtin "abs") (rB (kx X) ca (evB .abs)) := by
  intro pins s σ H xs us Q I rv ⟨ds, h, b, G, E, cap, vs, vw, run⟩
  match ds, vw, run with
  | [], _, run => exact False.elim run
  | a :: c :: r, _, run => cases a <;> exact False.elim run
  | [d], vw, run =>
    obtain ⟨v, rfl, va⟩ := vw.one
    cases d with
    | int i =>
      cases va.int
      exact call_abs pins s σ H _ us Q I rv ⟨i, rfl, run.val vs (.int _)⟩
    | _ => exact False.elim run
theorem b_int : CallR X (.type "int") (rB (kx X) ca (evB .int)) := by
  intro pins s σ H xs us Q I rv ⟨ds, h, b, G, E, cap, vs, vw, run⟩
  match ds, vw, run with
  | [], _, run => exact False.elim run
  | a :: c :: r, _, run => cases a <;> exact False.elim run
  | [d], vw, run =>
    obtain ⟨v, rfl, va⟩ := vw.one
    cases d with
    | int i =>
      cases va.int
      exact call_int1 pins s σ H _ us Q I rv (.inl ⟨i, rfl, run.val vs (.int _)⟩)
    | bl i =>
      cases va.bl
      exact call_int1 pins s σ H _ us Q I rv (.inr ⟨i, rfl, run.val vs (.int _)⟩)
    | _ => exact False.elim run
theorem b_max2 (hc : X.calm = true) : CallR X (.builtin "max") (rB (kx X) ca (evB .max2)) := by
  intro pins s σ H xs us Q I rv ⟨ds, h, b, G, E, cap, vs, vw, run⟩
  match ds, vw, run with
  | [], _, run => exact False.elim run
  | [a], _, run => cases a <;> exact False.elim run
  | a :: c :: e :: r, _, run => cases a <;> first | exact False.elim run | (cases c <;> exact False.elim run)
  | [d, e], vw, run =>
    obtain ⟨v, w, rfl, va, vb⟩ := vw.two
    cases d with
    | int i =>
      cases e with
      | int j =>
        cases va.int; cases vb.int
        exact call_max2 hc pins s σ H _ us Q I rv ⟨i, j, rfl, run.val vs (.int _)⟩
      | _ => exact False.elim run
    | _ => exact False.elim run
theorem b_min2 (hc : X.calm = true) : CallR X (.builtin "min") (rB (kx X) ca (evB .min2)) := by
  intro pins s σ H xs us Q I rv ⟨ds, h, b, G, E, cap, vs, vw, run⟩
  match ds, vw, run with
  | [], _, run => exact False.elim run
  | [a], _, run => cases a <;> exact False.elim run
  | a :: c :: e :: r, _, run => cases a <;> first | exact False.elim run | (cases c <;> exact False.elim run)
  | [d, e], vw, run =>
    obtain ⟨v, w, rfl, va, vb⟩ := vw.two
    cases d with
    | int i =>
      cases e with
      | int j =>
        cases va.int; cases vb.int
        exact call_min2 hc pins s σ H _ us Q I rv ⟨i, j, rfl, run.val vs (.int _)⟩
      | _ => exact False.elim run
    | _ => exact False.elim run
theorem int_of_reads {h : Heap} {v : Value} {n : Int} {as : List Addr} (r : Reads h v (.int n) as) : RelV (.int n) v := by
  cases r; exact ⟨_, rfl⟩
theorem b_max1 (hc : X.calm = true) (hu : X.A.units + 80 < cLine) : CallR X (.builtin "max") (fun xs H Q => ∃ d h b G E cap, VS (kx X) H b G h ∧ Vws (kx X) H b G xs [d] ∧ Run (kx X) ca cap H b G (evB .max1 [d] h) Q E) := by
  intro pins s σ H xs us Q I rv ⟨d, h, b, G, E, cap, vs, vw, run⟩
  obtain ⟨v, rfl, va⟩ := vw.one
  have run : Run (kx X) ca cap H b G (match (seqOf h d).bind intsOf with
    | some ns => match maxI ns with
      | some m => .ok (.int m, false, h)
      | none => .bad
    | none => .bad) Q E := by cases d <;> exact run
  split at run
  · rename_i ns e
    obtain ⟨zs, e1, e2⟩ := Option.bind_eq_some_iff.mp e
    cases ns with
    | nil => exact False.elim run
    | cons n ns =>
      have e3 := ints_some e2
      subst e3
      obtain ⟨a, ws, its, rfl, hc', rw', r, hsq, _⟩ := seq_at I vs va e1
      obtain ⟨u, rfl, ru⟩ := vals1 rv
      cases ru
      obtain ⟨as, ra⟩ := seq_reads I rw' r (shs_ints _)
      rw [toPl_ints] at ra
      have fin : ∀ (v : Value) (h' : Heap) (tk : Nat) (bs : List Addr), Reads h' v (PySem.W.maxD (.int n) (ns.map .int)) bs → (∀ b o, s.heap.get? b = some o → h'.get? b = some o) → EP X pins σ Q v { s with heap := h', toks := tk } := fun v h' tk bs r k => by
        rw [PySem.W.maxD_ints] at r
        exact ⟨.int _, H, I.kept k, int_of_reads r, run.val vs (.int _)⟩
      have hd : X.A.units + 1 + PyData.depthAll (PyData.int n :: ns.map .int) < cLine := by
        have := depthAll_ints (n :: ns)
        rw [List.map_cons] at this
        omega
      rcases hc' with p | p
      · exact PySem.W.max_list_data (I.ok.hd hc) p ra (alikeAll_ints (n :: ns)) hd fun i v h' tk bs _ r k => fin v h' tk bs r k
      · exact PySem.W.max_tuple_data (I.ok.hd hc) p ra (alikeAll_ints (n :: ns)) hd fun i v h' tk bs _ r k => fin v h' tk bs r k
  · exact False.elim run
theorem b_min1 (hc : X.calm = true) (hu : X.A.units + 80 < cLine) : CallR X (.builtin "min") (fun xs H Q => ∃ d h b G E cap, VS (kx X) H b G h ∧ Vws (kx X) H b G xs [d] ∧ Run (kx X) ca cap H b G (evB .min1 [d] h) Q E) := by
  intro pins s σ H xs us Q I rv ⟨d, h, b, G, E, cap, vs, vw, run⟩
  obtain ⟨v, rfl, va⟩ := vw.one
  have run : Run (kx X) ca cap H b G (match (seqOf h d).bind intsOf with
    | some ns => match minI ns with
      | some m => .ok (.int m, false, h)
      | none => .bad
    | none => .bad) Q E := by cases d <;> exact run
  split at run
  · rename_i ns e
    obtain ⟨zs, e1, e2⟩ := Option.bind_eq_some_iff.mp e
    cases ns with
    | nil => exact False.elim run
    | cons n ns =>
      have e3 := ints_some e2
      subst e3
      obtain ⟨a, ws, its, rfl, hc', rw', r, hsq, _⟩ := seq_at I vs va e1
      obtain ⟨u, rfl, ru⟩ := vals1 rv
      cases ru
      obtain ⟨as, ra⟩ := seq_reads I rw' r (shs_ints _)
      rw [toPl_ints] at ra
      have fin : ∀ (v : Value) (h' : Heap) (tk : Nat) (bs : List Addr), Reads h' v (PySem.W.minD (.int n) (ns.map .int)) bs → (∀ b o, s.heap.get? b = some o → h'.get? b = some o) → EP X pins σ Q v { s with heap := h', toks := tk } := fun v h' tk bs r k => by
        rw [PySem.W.minD_ints] at r
        exact ⟨.int _, H, I.kept k, int_of_reads r, run.val vs (.int _)⟩
      have hd : X.A.units + 1 + PyData.depthAll (PyData.int n :: ns.map .int) < cLine := by
        have := depthAll_ints (n :: ns)
        rw [List.map_cons] at this
        omega
      rcases hc' with p | p
      · exact PySem.W.min_list_data (I.ok.hd hc) p ra (alikeAll_ints (n :: ns)) hd fun i v h' tk bs _ r k => fin v h' tk bs r k
      · exact PySem.W.min_tuple_data (I.ok.hd hc) p ra (alikeAll_ints (n :: ns)) hd fun i v h' tk bs _ r k => fin v h' tk bs r k
  · exact False.elim run
/-- max(x, default=d) -/
theorem b_maxd (hc : X.calm = true) (hu : X.A.units + 80 < cLine) {cap : Bool} {d : D} {v : V} {u w : Value} {x : Int} {Q : VK} {E : Value → Option Addr → HpC → Prop} (I : Inv X pins σ H s) (rv : RelV v u) (rx : RelV (.int x) w) (vs : VS (kx X) H b G h) (va : Vw (kx X) H b G v d)
    (run : Run (kx X) ca cap H b G (evB .max1 [d, .int x] h) Q E) : wpAny (model X.prog X.w) X.A (call (.builtin "max") [u] [(Str.ofString "default", w)]) (EP X pins σ Q) X.xe s := by
  have run : Run (kx X) ca cap H b G (match (seqOf h d).bind intsOf with
    | some ns => .ok (.int ((maxI ns).getD x), false, h)
    | none => .bad) Q E := by cases d <;> exact run
  split at run
  · rename_i ns e
    obtain ⟨zs, e1, e2⟩ := Option.bind_eq_some_iff.mp e
    have e3 := ints_some e2
    subst e3
    obtain ⟨a, ws, its, rfl, hc', rw', r, hsq, _⟩ := seq_at I vs va e1
    cases rv
    obtain ⟨as, ra⟩ := seq_reads I rw' r (shs_ints _)
    rw [toPl_ints] at ra
    have hd : X.A.units + 1 + PyData.depthAll (ns.map PyData.int) < cLine := by rw [depthAll_ints]; omega
    have f0 : ns.map PyData.int = [] → ∀ (h' : Heap) (tk : Nat), (∀ b o, s.heap.get? b = some o → h'.get? b = some o) → EP X pins σ Q w { s with heap := h', toks := tk } := fun z h' tk k => by
      have z : ns = [] := List.map_eq_nil_iff.mp z
      subst z
      exact ⟨.int x, H, I.kept k, rx, run.val vs (.int _)⟩
    have f1 : ∀ (y : PyData) (ys : List PyData) (i : Nat) (v : Value) (h' : Heap) (tk : Nat) (bs : List Addr), ns.map PyData.int = y :: ys → its[i]? = some v → Reads h' v (PySem.W.maxD y ys) bs → (∀ b o, s.heap.get? b = some o → h'.get? b = some o) → EP X pins σ Q v { s with heap := h', toks := tk } := fun y ys i v h' tk bs z _ r k => by
      cases ns with
      | nil => cases z
      | cons n ns =>
        rw [List.map_cons] at z
        cases z
        rw [PySem.W.maxD_ints] at r
        exact ⟨.int _, H, I.kept k, int_of_reads r, run.val vs (.int _)⟩
    rcases hc' with p | p
    · exact PySem.W.max_list_default (I.ok.hd hc) p ra (alikeAll_ints ns) hd f0 f1
    · exact PySem.W.max_tuple_default (I.ok.hd hc) p ra (alikeAll_ints ns) hd f0 f1
  · exact False.elim run
theorem b_mind (hc : X.calm = true) (hu : X.A.units + 80 < cLine) {cap : Bool} {d : D} {v : V} {u w : Value} {x : Int} {Q : VK} {E : Value → Option Addr → HpC → Prop} (I : Inv X pins σ H s) (rv : RelV v u) (rx : RelV (.int x) w) (vs : VS (kx X) H b G h) (va : Vw (kx X) H b G v d)
    (run : Run (kx X) ca cap H b G (evB .min1 [d, .int x] h) Q E) : wpAny (model X.prog X.w) X.A (call (.builtin "min") [u] [(Str.ofString "default", w)]) (EP X pins σ Q) X.xe s := by
  have run : Run (kx X) ca cap H b G (match (seqOf h d).bind intsOf with
    | some ns => .ok (.int ((minI ns).getD x), false, h)
    | none => .bad) Q E := by cases d <;> exact run
  split at run
  · rename_i ns e
    obtain ⟨zs, e1, e2⟩ := Option.bind_eq_some_iff.mp e
    have e3 := ints_some e2
    subst e3
    obtain ⟨a, ws, its, rfl, hc', rw', r, hsq, _⟩ := seq_at I vs va e1
    cases rv
    obtain ⟨as, ra⟩ := seq_reads I rw' r (shs_ints _)
    rw [toPl_ints] at ra
    have hd : X.A.units + 1 + PyData.depthAll (ns.map PyData.int) < cLine := by rw [depthAll_ints]; omega
    have f0 : ns.map PyData.int = [] → ∀ (h' : Heap) (tk : Nat), (∀ b o, s.heap.get? b = some o → h'.get? b = some o) → EP X pins σ Q w { s with heap := h', toks := tk } := fun z h' tk k => by
      have z : ns = [] := List.map_eq_nil_iff.mp z
      subst z
      exact ⟨.int x, H, I.kept k, rx, run.val vs (.int _)⟩
    have f1 : ∀ (y : PyData) (ys : List PyData) (i : Nat) (v : Value) (h' : Heap) (tk : Nat) (bs : List Addr), ns.map PyData.int = y :: ys → its[i]? = some v → Reads h' v (PySem.W.minD y ys) bs → (∀ b o, s.heap.get? b = some o → h'.get? b = some o) → EP X pins σ Q v { s with heap := h', toks := tk } := fun y ys i v h' tk bs z _ r k => by
      cases ns with
      | nil => cases z
      | cons n ns =>
        rw [List.map_cons] at z
        cases z
        rw [PySem.W.minD_ints] at r
        exact ⟨.int _, H, I.kept k, int_of_reads r, run.val vs (.int _)⟩
    rcases hc' with p | p
    · exact PySem.W.min_list_default (I.ok.hd hc) p ra (alikeAll_ints ns) hd f0 f1
    · exact PySem.W.min_tuple_default (I.ok.hd hc) p ra (alikeAll_ints ns) hd f0 f1
  · exact False.elim run
theorem b_sum (hc : X.calm = true) : CallR X (.builtin "sum") (rB (kx X) ca (evB .sum)) := by
  intro pins s σ H xs us Q I rv ⟨ds, h, b, G, E, cap, vs, vw, run⟩
  match ds, vw, run with
  | [], _, run => exact False.elim run
  | a :: c :: r, _, run => cases a <;> exact False.elim run
  | [d], vw, run =>
    obtain ⟨v, rfl, va⟩ := vw.one
    have run : Run (kx X) ca cap H b G (match (listOf h d).bind intsOf with
      | some ns => .ok (.int ns.sum, false, h)
      | none => .bad) Q E := by cases d <;> exact run
    split at run
    · rename_i ns e
      obtain ⟨zs, e1, e2⟩ := Option.bind_eq_some_iff.mp e
      have e3 := ints_some e2
      subst e3
      obtain ⟨a, ws, rfl, hl, r⟩ := va.list vs e1
      have e4 := reps_ints r
      subst e4
      exact cr_sum hc pins s σ H _ us Q I rv ⟨a, ns, rfl, hl, run.val vs (.int _)⟩
    · exact False.elim run
theorem b_all (hc : X.calm = true) : CallR X (.builtin "all") (rB (kx X) ca (evB .all)) := by
  intro pins s σ H xs us Q I rv ⟨ds, h, b, G, E, cap, vs, vw, run⟩
  match ds, vw, run with
  | [], _, run => exact False.elim run
  | a :: c :: r, _, run => cases a <;> exact False.elim run
  | [d], vw, run =>
    obtain ⟨v, rfl, va⟩ := vw.one
    have run : Run (kx X) ca cap H b G (match (listOf h d).bind boolsOf with
      | some ns => .ok (.bl (ns.all id), false, h)
      | none => .bad) Q E := by cases d <;> exact run
    split at run
    · rename_i ns e
      obtain ⟨zs, e1, e2⟩ := Option.bind_eq_some_iff.mp e
      have e3 := bools_some e2
      subst e3
      obtain ⟨a, ws, rfl, hl, r⟩ := va.list vs e1
      have e4 := reps_bls r
      subst e4
      exact cr_all hc pins s σ H _ us Q I rv ⟨a, ns, rfl, hl, run.val vs (.bl _)⟩
    · exact False.elim run
theorem b_any (hc : X.calm = true) : CallR X (.builtin "any") (rB (kx X) ca (evB .any)) := by
  intro pins s σ H xs us Q I rv ⟨ds, h, b, G, E, cap, vs, vw, run⟩
  match ds, vw, run with
  | [], _, run => exact False.elim run
  | a :: c :: r, _, run => cases a <;> exact False.elim run
  | [d], vw, run =>
    obtain ⟨v, rfl, va⟩ := vw.one
    have run : Run (kx X) ca cap H b G (match (listOf h d).bind boolsOf with
      | some ns => .ok (.bl (ns.any id), false, h)
      | none => .bad) Q E := by cases d <;> exact run
    split at run
    · rename_i ns e
      obtain ⟨zs, e1, e2⟩ := Option.bind_eq_some_iff.mp e
      have e3 := bools_some e2
      subst e3
      obtain ⟨a, ws, rfl, hl, r⟩ := va.list vs e1
      have e4 := reps_bls r
      subst e4
      exact cr_any hc pins s σ H _ us Q I rv ⟨a, ns, rfl, hl, run.val vs (.bl _)⟩
    · exact False.elim run
theorem b_list : CallR X (.type "list") (rB (kx X) ca (evB .list)) := by
  intro pins s σ H xs us Q I rv ⟨ds, h, b, G, E, cap, vs, vw, run⟩
  match ds, vw, run with
  | [], _, run => exact False.elim run
  | a :: c :: r, _, run => cases a <;> exact False.elim run
  | [d], vw, run =>
    obtain ⟨v, rfl, va⟩ := vw.one
    have run : Run (kx X) ca cap H b G (match seqOf h d with
      | some xs => .ok (.lst xs, true, h)
      | none => .bad) Q E := by cases d <;> exact run
    split at run
    · rename_i zs e
      obtain ⟨a, ws, rfl, hl, r⟩ := va.seq vs e
      exact call_list_of pins s σ H _ us Q I rv ⟨a, ws, rfl, hl, run.newL vs r⟩
    · exact False.elim run
theorem b_tuple : CallR X (.type "tuple") (rB (kx X) ca (evB .tuple)) := by
  intro pins s σ H xs us Q I rv ⟨ds, h, b, G, E, cap, vs, vw, run⟩
  match ds, vw, run with
  | [], _, run => exact False.elim run
  | a :: c :: r, _, run => cases a <;> exact False.elim run
  | [d], vw, run =>
    obtain ⟨v, rfl, va⟩ := vw.one
    have run : Run (kx X) ca cap H b G (match seqOf h d with
      | some xs => .ok (.tup xs, false, h)
      | none => .bad) Q E := by cases d <;> exact run
    split at run
    · rename_i zs e
      have old := va
      obtain ⟨u, rfl, ru⟩ := vals1 rv
      rcases seqOf_or e with rfl | e1
      · obtain ⟨a, ws, rfl, hl, r⟩ := va.tup
        cases ru
        obtain ⟨its, r', pl, hz⟩ := I.tuple hl.sq
        exact call_tuple_same pl ⟨.ref a, H, I, rfl, run.val vs old.tupR⟩
      · obtain ⟨a, ws, rfl, hl, r⟩ := va.list vs e1
        cases ru
        obtain ⟨its, r', pl, hz⟩ := I.list hl
        have hlen := r'.length
        refine call_tuple_list pl.isList (fun h' kp => ?_) (by simp only [List.size_toArray] <;> omega)
        have I1 : Inv X pins σ H { s with heap := h' } := I.kept (t' := s.toks) kp
        obtain ⟨o, ho, hf, J⟩ := laidT (t' := s.toks) I1 r' hz
        exact ⟨.ref h'.objs.size, _, J, rfl, run.newT vs r _ _ hf ho⟩
    · exact False.elim run
theorem b_str : CallR X (.type "str") (rB (kx X) ca (evB .str)) := by
  intro pins s σ H xs us Q I rv ⟨ds, h, b, G, E, cap, vs, vw, run⟩
  match ds, vw, run with
  | [], _, run => exact False.elim run
  | a :: c :: r, _, run => cases a <;> exact False.elim run
  | [d], vw, run =>
    obtain ⟨v, rfl, va⟩ := vw.one
    cases d with
    | int i =>
      simp only [evB] at run
      split at run
      · rename_i hz
        cases va.int
        exact call_str_int pins s σ H _ us Q I rv ⟨i, rfl, hz, run.val vs (.str _)⟩
      · exact False.elim run
    | _ => exact False.elim run
end
end Rw

set_option maxHeartbeats 1000000
/-! L1f: sorted, repr, isinstance, subscripts, slices. -/
namespace Rw
open PySem PySem.Spec PyProof.Rows L2

/-! ### sorting -/
section
variable {α : Type} (le : α → α → Bool)
def insL (x : α) : List α → List α
  | [] => [x]
  | y :: ys => if le x y then x :: y :: ys else y :: insL x ys
def isoL : List α → List α
  | [] => []
  | x :: xs => insL le x (isoL xs)
variable {le}
theorem insL_mem {x z : α} : ∀ {l : List α}, z ∈ insL le x l ↔ z = x ∨ z ∈ l
  | [] => by simp [insL]
  | y :: ys => by
    unfold insL
    split
    · simp
    · rw [List.mem_cons, insL_mem, List.mem_cons]
      exact ⟨fun h => h.elim (fun h => .inr (.inl h)) fun h => h.elim .inl fun h => .inr (.inr h), fun h => h.elim (fun h => .inr (.inl h)) fun h => h.elim .inl fun h => .inr (.inr h)⟩
theorem isoL_mem {z : α} : ∀ {l : List α}, z ∈ isoL le l ↔ z ∈ l
  | [] => by simp [isoL]
  | x :: xs => by rw [isoL, insL_mem, isoL_mem, List.mem_cons]
theorem insL_pair (h : PySem.W.TotalLe le) (x : α) : ∀ {l : List α}, l.Pairwise (fun a b => le a b = true) → (insL le x l).Pairwise fun a b => le a b = true
  | [], _ => by simp [insL]
  | y :: ys, p => by
    have p' := List.pairwise_cons.mp p
    unfold insL
    split
    · rename_i e
      refine List.pairwise_cons.mpr ⟨fun z hz => ?_, p⟩
      rcases List.mem_cons.mp hz with rfl | hz
      · exact e
      · exact h.trans _ _ _ e (p'.1 z hz)
    · rename_i e
      refine List.pairwise_cons.mpr ⟨fun z hz => ?_, insL_pair h x p'.2⟩
      rcases insL_mem.mp hz with rfl | hz
      · exact (h.total z y).resolve_left e
      · exact p'.1 z hz
theorem isoL_pair (h : PySem.W.TotalLe le) : ∀ l : List α, (isoL le l).Pairwise fun a b => le a b = true
  | [] => .nil
  | x :: xs => insL_pair h x (isoL_pair h xs)
theorem insL_filter (h : PySem.W.TotalLe le) (c x : α) : ∀ l : List α, (insL le x l).filter (PySem.W.sameRank le c) = (x :: l).filter (PySem.W.sameRank le c)
  | [] => rfl
  | y :: ys => by
    unfold insL
    split
    · rfl
    · rename_i e
      have ih := insL_filter h c x ys
      by_cases hy : PySem.W.sameRank le c y = true
      · have hx : ¬ PySem.W.sameRank le c x = true := fun hx => by
          unfold PySem.W.sameRank at hx hy
          rw [Bool.and_eq_true] at hx hy
          exact e (h.trans _ c _ hx.2 hy.1)
        rw [List.filter_cons_of_pos hy, ih, List.filter_cons_of_neg hx, List.filter_cons_of_neg hx, List.filter_cons_of_pos hy]
      · rw [List.filter_cons_of_neg hy, ih]
        by_cases hx : PySem.W.sameRank le c x = true
        · rw [List.filter_cons_of_pos hx, List.filter_cons_of_pos hx, List.filter_cons_of_neg hy]
        · rw [List.filter_cons_of_neg hx, List.filter_cons_of_neg hx, List.filter_cons_of_neg hy]
theorem isoL_filter (h : PySem.W.TotalLe le) (c : α) : ∀ l : List α, (isoL le l).filter (PySem.W.sameRank le c) = l.filter (PySem.W.sameRank le c)
  | [] => rfl
  | x :: xs => by
    rw [isoL, insL_filter h]
    by_cases hx : PySem.W.sameRank le c x = true
    · rw [List.filter_cons_of_pos hx, List.filter_cons_of_pos hx, isoL_filter h c xs]
    · rw [List.filter_cons_of_neg hx, List.filter_cons_of_neg hx, isoL_filter h c xs]
theorem isoL_eq (h : PySem.W.TotalLe le) (l : List α) : isoL le l = l.mergeSort le := PySem.W.sort_unique h (isoL_pair h l) fun c => isoL_filter h c l
end
abbrev leD : D → D → Bool := PySem.W.dataLe false toP
theorem leD_total : PySem.W.TotalLe leD := PySem.W.sortLe_total _ _ _
theorem leD_of {x y : D} (h : alike y x = true) : leD x y = !ltv y x := by
  rw [ltv_alike y x h]; rfl
theorem putIn_eq {x : D} : ∀ {l : List D}, (∀ y ∈ l, alike y x = true) → putIn x l = insL leD x l
  | [], _ => rfl
  | y :: ys, h => by
    have e := leD_of (h y List.mem_cons_self)
    unfold putIn insL
    rw [e, putIn_eq fun z hz => h z (List.mem_cons_of_mem _ hz)]
    cases ltv y x <;> rfl
theorem sortD_eq : ∀ {l : List D}, (∀ x ∈ l, ∀ y ∈ l, alike x y = true) → sortD l = isoL leD l
  | [], _ => rfl
  | x :: xs, h => by
    have ih := sortD_eq (l := xs) fun a ha b hb => h a (List.mem_cons_of_mem _ ha) b (List.mem_cons_of_mem _ hb)
    rw [sortD, isoL, ih]
    exact putIn_eq fun y hy => h y (List.mem_cons_of_mem _ (isoL_mem.mp hy)) x List.mem_cons_self
section
variable {X : Cx} {ca : Nat → Addr} {pins : List (Addr × Obj)} {s : Shared} {σ : L2.St} {H : HpC} {b : List Addr} {G : Addr → Prop} {h : Hp}
theorem each_of {vs : List V} {us : List Value} : ∀ {ds : List D}, Vals vs us → Reps (kx X) H (wof b G) b vs ds → PySem.W.EachIs (fun u d => ∃ v, RelV v u ∧ Rep (kx X) H (wof b G) b v d) us ds
  | [], rv, r => by cases r; cases rv; exact .nil
  | d :: ds, rv, r => by
    cases r with
    | cons r t =>
      cases rv with
      | cons q rv => exact .cons ⟨_, q, r⟩ (each_of rv t)
theorem of_each : ∀ {ds : List D} {us : List Value}, PySem.W.EachIs (fun u d => ∃ v, RelV v u ∧ Rep (kx X) H (wof b G) b v d) us ds → ∃ vs, Vals vs us ∧ Reps (kx X) H (wof b G) b vs ds
  | _, _, .nil => ⟨[], .nil, .nil⟩
  | _, _, .cons ⟨v, q, r⟩ t => let ⟨vs, a, c⟩ := of_each t; ⟨v :: vs, .cons q a, .cons r c⟩
theorem depth_mem {d : D} (h : shp d = true) : (toP d).depth ≤ 60 := (sh_lay 60 d h).2
theorem b_sorted (hu : X.A.units + 80 < cLine) : CallR X (.builtin "sorted") (rB (kx X) ca (evB .sorted)) := by
  intro pins s σ H xs us Q I rv ⟨ds, h, b, G, E, cap, vs, vw, run⟩
  match ds, vw, run with
  | [], _, run => exact False.elim run
  | a :: c :: r, _, run => cases a <;> exact False.elim run
  | [d], vw, run =>
    obtain ⟨v, rfl, va⟩ := vw.one
    have run : Run (kx X) ca cap H b G (match listOf h d with
      | some xs => if xs.length ≤ maxLen && xs.all (fun x => shp x && !noItem x && xs.all (alike x)) then .ok (.lst (sortD xs), true, h) else .bad
      | none => .bad) Q E := by cases d <;> exact run
    split at run
    · rename_i zs e1
      split at run
      · rename_i c
        rw [Bool.and_eq_true, decide_eq_true_iff, List.all_eq_true] at c
        obtain ⟨hz, c⟩ := c
        have c : ∀ x ∈ zs, (shp x = true ∧ noItem x = false) ∧ ∀ y ∈ zs, alike x y = true := fun x hx => by
          have := c x hx
          rw [Bool.and_eq_true, Bool.and_eq_true, List.all_eq_true] at this
          exact ⟨⟨this.1.1, by simpa using this.1.2⟩, this.2⟩
        obtain ⟨a, ws, rfl, hl, r⟩ := va.list vs e1
        obtain ⟨u, rfl, ru⟩ := vals1 rv
        cases ru
        obtain ⟨its, rw', pl, hz'⟩ := I.list hl
        have ea := each_of rw' r
        have er : PySem.W.EachIs (fun v d => ∃ as, Reads s.heap v (toP d) as) its zs := (PySem.W.each_mem ea).mono fun u d ⟨⟨v, q, r⟩, hm⟩ => dreads I q (.rep r) (c d hm).1.1
        have hal : PySem.W.AllAlike (zs.map toP) := by
          intro p hp q hq
          obtain ⟨x, hx, rfl⟩ := List.mem_map.mp hp
          obtain ⟨y, hy, rfl⟩ := List.mem_map.mp hq
          exact alike_toP x y ((c x hx).2 y hy)
        have hk : PySem.W.Sortable (zs.map toP) := by
          by_cases t : ∃ x ∈ zs, ∃ ys, x = D.tup ys
          · obtain ⟨x, hx, ys, rfl⟩ := t
            refine .inl fun p hp => ?_
            obtain ⟨y, hy, rfl⟩ := List.mem_map.mp hp
            have q := (c _ hx).2 y hy
            cases y with
            | tup l =>
              cases l with
              | nil => have := (c _ hy).1.2; simp [noItem] at this
              | cons x l => exact ⟨toP x, toPl l, by simp [toP, toPl]⟩
            | _ => simp [alike] at q
          · refine .inr fun p hp => ?_
            obtain ⟨y, hy, rfl⟩ := List.mem_map.mp hp
            have q := (c _ hy).2 y hy
            refine ⟨toP_nn q, fun l => ?_⟩
            cases y with
            | tup l => exact absurd ⟨_, hy, _, rfl⟩ t
            | bl _ => simp [toP]
            | int _ => simp [toP]
            | str _ => simp [toP]
            | _ => simp [alike] at q
        refine PySem.W.sorted_data pl.isList ea er hal hk (le_line hz) (fun d hd => by have := depth_mem (c d hd).1.1; omega) fun out ho eo => ?_
        rw [← isoL_eq leD_total, ← sortD_eq fun x hx y hy => (c x hx).2 y hy] at eo
        obtain ⟨ws', rw2, r2⟩ := of_each eo
        obtain ⟨ep, he'⟩ := PyProof.Rows.sortedAll_at s.heap its out.toArray
        have hlen : ws'.length ≤ sizeLine := by rw [rw2.length, ho]; exact le_line hz
        exact ⟨.ref _, upd H (s.heap.objs.size + 1) (.lst ws'), I.laid (t' := s.toks) (fun _ _ => PyProof.Rows.sortedAll_old) (Nat.le_succ _) ⟨hlen, out, ep, rw2, by simpa using he'⟩, rfl, run.newL vs r2 _ (I.hok.fresh (Nat.le_succ _))⟩
      · exact False.elim run
    · exact False.elim run

/-! ### repr -/
theorem atom_reads {hp : Heap} {W : Addr → Prop} {v : V} {u : Value} {d : D} {p : PyData} (ha : atom d = true) (rv : RelV v u) (r : Rep (kx X) H W b v d) (e : toPy d = some p) : Reads hp u p [] := by
  cases d with
  | non => cases r; cases rv; cases e; exact .none
  | bl i => cases r; cases rv; cases e; exact .bool _
  | int i => cases r; obtain ⟨t, rfl⟩ := rv; cases e; exact .int _ _
  | str i => cases r; obtain ⟨t, rfl⟩ := rv; cases e; exact .str _ _
  | _ => simp [atom] at ha
theorem atoms_reads {hp : Heap} {W : Addr → Prop} : ∀ {ds : List D} {vs : List V} {us : List Value} {ps : List PyData}, ds.all atom = true → Vals vs us → Reps (kx X) H W b vs ds → toPys ds = some ps → ReadsAll hp us ps []
  | [], _, _, _, _, rv, r, e => by cases r; cases rv; cases e; exact .nil
  | d :: ds, _, _, ps, ha, rv, r, e => by
    cases r with
    | cons r t =>
      cases rv with
      | cons q rv =>
        rw [List.all_cons, Bool.and_eq_true] at ha
        simp only [toPys] at e
        split at e
        · rename_i a c e1 e2
          cases e
          exact ReadsAll.cons (as := []) (bs := []) (atom_reads ha.1 q r e1) (atoms_reads ha.2 rv t e2)
        · cases e
theorem keys_read {hp : Heap} {P : Program} {w : World} : ∀ {es : List DictEntry} {kvs : List (Key × Value)} {ps : List PyData}, Pairs (mixKind P w) es kvs → toPys (kvs.map fun p => kD p.1) = some ps → ReadsAll hp (es.map (·.key)) ps [] ∧ es.map (·.val) = kvs.map (·.2)
  | _, _, ps, .nil, e => by cases e; exact ⟨.nil, rfl⟩
  | e0 :: es, (k, x) :: kvs, ps, .cons q1 q2 t, e => by
    rw [List.map_cons] at e
    simp only [toPys] at e
    split at e
    · rename_i a c e1 e2
      cases e
      obtain ⟨i1, i2⟩ := keys_read t e2
      refine ⟨?_, by rw [List.map_cons, List.map_cons, i2, q2]⟩
      refine ReadsAll.cons (as := []) (bs := []) ?_ i1
      have q : keyIs k e0.key = true := q1
      show Reads hp e0.key a []
      generalize e0.key = ky at q ⊢
      rcases keyIs_shape q with ⟨i, t, rfl, rfl⟩ | ⟨z, t, rfl, rfl⟩
      · cases e1; exact .int _ _
      · cases e1; exact .str _ _
    · cases e
theorem zip_maps {α β : Type} : ∀ {l : List α} {m : List β}, l.length = m.length → (l.zip m).map (·.1) = l ∧ (l.zip m).map (·.2) = m
  | [], [], _ => ⟨rfl, rfl⟩
  | a :: l, b :: m, h => by
    have q := zip_maps (l := l) (m := m) (by simpa using h)
    exact ⟨by rw [List.zip_cons_cons, List.map_cons, q.1], by rw [List.zip_cons_cons, List.map_cons, q.2]⟩
theorem toPys_atom : ∀ {ds : List D} {ps : List PyData}, ds.all atom = true → toPys ds = some ps → PyData.depthAll ps = 0 ∧ ∀ p ∈ ps, p.depth = 0
  | [], ps, _, e => by cases e; simp [PyData.depthAll]
  | d :: ds, ps, ha, e => by
    rw [List.all_cons, Bool.and_eq_true] at ha
    simp only [toPys] at e
    split at e
    · rename_i a c e1 e2
      cases e
      have q := toPys_atom ha.2 e2
      have qa : a.depth = 0 := by
        cases d <;> first | (simp [atom] at ha; done) | (cases e1; simp [PyData.depth])
      refine ⟨by simp [PyData.depthAll, q.1, qa], fun p hp => ?_⟩
      rcases List.mem_cons.mp hp with rfl | hp
      · exact qa
      · exact q.2 p hp
    · cases e
theorem depthKv_zip : ∀ {as bs : List PyData}, (∀ p ∈ as, p.depth = 0) → (∀ p ∈ bs, p.depth = 0) → PyData.depthKv (as.zip bs) = 0
  | [], _, _, _ => by simp [PyData.depthKv]
  | _ :: _, [], _, _ => by simp [PyData.depthKv]
  | a :: as, b :: bs, h1, h2 => by
    rw [List.zip_cons_cons]
    simp only [PyData.depthKv]
    rw [h1 a List.mem_cons_self, h2 b List.mem_cons_self, depthKv_zip (fun p hp => h1 p (List.mem_cons_of_mem _ hp)) fun p hp => h2 p (List.mem_cons_of_mem _ hp)]
    rfl
theorem reprD_some {d : D} {x : Str} (e : reprD d = some x) : ∃ ks vs a c, d = .dct ks vs ∧ ks.all atom = true ∧ vs.all atom = true ∧ toPys ks = some a ∧ toPys vs = some c ∧ a.length = c.length ∧ (PyData.dict (a.zip c)).showable = true ∧ (PyData.dict (a.zip c)).shown.length ≤ maxLen ∧ x = (PyData.dict (a.zip c)).shown := by
  unfold reprD at e
  split at e
  · rename_i ks vs
    split at e
    · rename_i ha
      rw [Bool.and_eq_true] at ha
      split at e
      · rename_i p ep
        split at e
        · rename_i hs
          rw [Bool.and_eq_true, decide_eq_true_iff] at hs
          simp only [toPy] at ep
          split at ep
          · rename_i a c e1 e2
            split at ep
            · rename_i hl
              cases ep
              cases e
              exact ⟨ks, vs, a, c, rfl, ha.1, ha.2, e1, e2, by simpa using hl, hs.1, hs.2, rfl⟩
            · cases ep
          · cases ep
        · cases e
      · cases e
    · cases e
  · cases e
theorem dict_repr (hg : X.A.guards = some []) (hu : X.A.units + 80 < cLine) {cap : Bool} {Q : VK} {E : Value → Option Addr → HpC → Prop} {a : Addr} {kvs : List (Key × V)} {ds : List D} {x : Str} (I : Inv X pins σ H s) (vs : VS (kx X) H b G h) (hr : Rd H a (.dK kvs)) (r : Reps (kx X) H (wof b G) b (kvs.map (·.2)) ds)
    (e : reprD (.dct (kvs.map fun p => kD p.1) ds) = some x) (run : Run (kx X) ca cap H b G (.ok (.str x, false, h)) Q E) : wpAny (model X.prog X.w) X.A (call (.builtin "repr") [.ref a]) (EP X pins σ Q) X.xe s := by
  obtain ⟨ks, ws, ps, qs, ed, ha1, ha2, e1, e2, hl, hs, hz, rfl⟩ := reprD_some e
  cases ed
  obtain ⟨z, hd, vvs, rel, o, es, ep, h1, h2, h3, h4, h5, h6⟩ := dk_rd I.hok hr
  have ek : (vvs.map fun p => kD p.1) = kvs.map fun p => kD p.1 := by
    have q := rel.keys
    have q2 := congrArg (List.map kD) q
    simpa [List.map_map, Function.comp_def] using q2.symm
  obtain ⟨r1, r2⟩ := keys_read (hp := s.heap) h5 (by rw [ek]; exact e1)
  have rvv : Vals (kvs.map (·.2)) (vvs.map (·.2)) := by
    clear h6 h5 h4 h3 h2 h1 r1 r2 e ek e1 e2 hd z run hr r ha1
    induction rel with
    | nil => exact .nil
    | cons q t ih => exact .cons q.2 ih
  have r3 := atoms_reads (hp := s.heap) ha2 rvv r e2
  rw [← r2] at r3
  have hzm := zip_maps hl
  have rd : Reads s.heap (.ref a) (.dict (ps.zip qs)) (a :: [] ++ []) := Reads.dict h1 h2.1 h3 (by rw [hzm.1]; exact r1) (by rw [hzm.2]; exact r3)
  have dp : (PyData.dict (ps.zip qs)).depth ≤ 1 := by
    simp only [PyData.depth]
    rw [depthKv_zip (toPys_atom ha1 e1).2 (toPys_atom ha2 e2).2]
    exact Nat.le_refl _
  refine PySem.repr_of_reads' rd hs (fun _ hm => ?_) hg (by omega) (fun _ _ q => q) (fun h' u tk k => ep_str (I.kept k) vs run) (le_line hz)
  have : sysModules = a := by simpa using hm
  rw [this] at hd
  simp at hd
theorem b_repr (hg : X.A.guards = some []) (hu : X.A.units + 80 < cLine) : CallR X (.builtin "repr") (rB (kx X) ca (evB .repr)) := by
  intro pins s σ H xs us Q I rv ⟨ds, h, b, G, E, cap, vs, vw, run⟩
  match ds, vw, run with
  | [], _, run => exact False.elim run
  | a :: c :: r, _, run => cases a <;> exact False.elim run
  | [d], vw, run =>
    obtain ⟨v, rfl, va⟩ := vw.one
    have run1 : Run (kx X) ca cap H b G (match reprD (deref h d) with
      | some x => .ok (.str x, false, h)
      | none => .bad) Q E := by cases d <;> exact run
    clear run
    split at run1
    · rename_i x e
      obtain ⟨u, rfl, ru⟩ := vals1 rv
      cases d with
      | dct ks ws =>
        obtain ⟨a, kvs, rfl, hr, rfl, rd⟩ := va.dict vs (show dictOf h (.dct ks ws) = some (ks, ws) from rfl)
        cases ru
        exact dict_repr hg hu I vs hr rd e run1
      | ref n =>
        unfold deref at e
        cases q : h[n]? with
        | none => simp only [q] at e; simp [reprD] at e
        | some c =>
          cases c with
          | lst _ => simp only [q] at e; simp [reprD] at e
          | ins _ _ => simp only [q] at e; simp [reprD] at e
          | dct ks ws =>
            simp only [q] at e
            have run1 := run1
            obtain ⟨a, kvs, rfl, hr, rfl, rd⟩ := va.dict vs (show dictOf h (.ref n) = some (ks, ws) by simp only [dictOf, q])
            cases ru
            exact dict_repr hg hu I vs hr rd e run1
      | _ => simp [deref, reprD] at e
    · exact False.elim run1

/-! ### isinstance -/
def kName : Nat → String
  | 0 => "int" | 1 => "bool" | 2 => "str" | 3 => "list" | 4 => "tuple" | 5 => "dict" | _ => "NoneType"
theorem vw_ty (vs : VS (kx X) H b G h) {d : D} {v : V} {k : Nat} (va : Vw (kx X) H b G v d) (e : kindOf h d = some k) : TyX X.K H v (.type (kName k)) ∧ (k ≤ 5 ∨ k = 9) := by
  have hL : ∀ {a : Addr} {ws : List V}, SqL X.K H a ws → TyX X.K H (.ref a) (.type "list") := fun {a ws} hl => by
    rcases hl with (hl | ⟨o, hl⟩) | ⟨o, _, _, hk, hc, _⟩
    · exact .base (.lst hl)
    · exact .base (.frz hl)
    · exact .kList hk hc
  have hD : ∀ {a : Addr} {kvs : List (Key × V)}, Rd H a (.dK kvs) → TyX X.K H (.ref a) (.type "dict") := fun {a kvs} hl => by
    rcases hl with hl | ⟨o, hl⟩
    · exact .base (.dK hl)
    · exact .fDict hl
  cases d with
  | non => cases e; cases va.non; exact ⟨.base .non, .inr rfl⟩
  | bl i => cases e; cases va.bl; exact ⟨.base (.bl _), .inl (by decide)⟩
  | int i => cases e; cases va.int; exact ⟨.base (.int _), .inl (by decide)⟩
  | str i => cases e; cases va.str; exact ⟨.base (.str _), .inl (by decide)⟩
  | tup ds =>
    cases e
    obtain ⟨a, ws, rfl, hl, _⟩ := va.tup
    refine ⟨?_, .inl (by decide)⟩
    rcases hl with ⟨o, hl, _⟩ | ⟨o, _, _, hk, hc, _⟩
    · exact .fTuple hl
    · exact .kTuple hk hc
  | lst ds =>
    cases e
    obtain ⟨a, ws, rfl, hl, _⟩ := va.lst
    exact ⟨hL hl, .inl (by decide)⟩
  | dct ks ds =>
    cases e
    obtain ⟨a, kvs, rfl, hr, _⟩ := va.dict vs (show dictOf h (.dct ks ds) = some (ks, ds) from rfl)
    exact ⟨hD hr, .inl (by decide)⟩
  | set ds => cases e
  | ref n =>
    unfold kindOf at e
    cases q : h[n]? with
    | none => simp only [q] at e; cases e
    | some c =>
      cases c with
      | lst xs =>
        simp only [q] at e; cases e
        obtain ⟨a, ws, rfl, hl, _⟩ := va.list vs (show listOf h (.ref n) = some xs by simp only [listOf, q])
        exact ⟨hL hl, .inl (by decide)⟩
      | dct ks ws =>
        simp only [q] at e; cases e
        obtain ⟨a, kvs, rfl, hr, _⟩ := va.dict vs (show dictOf h (.ref n) = some (ks, ws) by simp only [dictOf, q])
        exact ⟨hD hr, .inl (by decide)⟩
      | ins _ _ => simp only [q] at e; cases e
theorem kit_all : ∀ k, (k ≤ 5 ∨ k = 9) → ∀ t, t ≤ 5 → kitB (kName k) (kName t) = some (isKind k t) := by
  have h : ∀ k ∈ [0, 1, 2, 3, 4, 5, 9], ∀ t ∈ [0, 1, 2, 3, 4, 5], kitB (kName k) (kName t) = some (isKind k t) := by decide +kernel
  intro k hk t ht
  refine h k ?_ t ?_
  · have : k = 0 ∨ k = 1 ∨ k = 2 ∨ k = 3 ∨ k = 4 ∨ k = 5 ∨ k = 9 := by omega
    simpa using this
  · have : t = 0 ∨ t = 1 ∨ t = 2 ∨ t = 3 ∨ t = 4 ∨ t = 5 := by omega
    simpa using this
theorem kit_any {K : PySem.W.Frag} {k : Nat} (hk : k ≤ 5 ∨ k = 9) : ∀ ts : List Nat, (∀ t ∈ ts, t ≤ 5) → PySem.W.kitAny K (.type (kName k)) (ts.map fun t => Value.type (kName t)) = some (ts.any (isKind k))
  | [], _ => rfl
  | t :: ts, h => by
    rw [List.map_cons, List.any_cons]
    have h1 := kit_ty (K := K) (kit_all k hk t (h t List.mem_cons_self))
    have h2 := kit_any (K := K) hk ts fun t ht => h t (List.mem_cons_of_mem _ ht)
    cases q : isKind k t with
    | true => exact kitAny_cons h1 (fun z => by rw [q] at z; cases z) fun _ => rfl
    | false => exact kitAny_cons h1 (fun _ => h2) fun z => by rw [q] at z; cases z
theorem cls_all : ∀ ts : List Nat, Paired ClsV (ts.map fun t => V.ty (kName t)) (ts.map fun t => Value.type (kName t))
  | [] => .nil
  | _ :: ts => .cons (.ty _) (cls_all ts)
/-- isinstance(x, T) -/
theorem b_isi {t : Nat} (ht : t ≤ 5) {cap : Bool} {d : D} {v : V} {Q : VK} {E : Value → Option Addr → HpC → Prop} (vs : VS (kx X) H b G h) (va : Vw (kx X) H b G v d) (run : Run (kx X) ca cap H b G (evB (.isi [t]) [d] h) Q E) : rIsi X.K [v, .ty (kName t)] H Q := by
  have run : Run (kx X) ca cap H b G (match kindOf h d with
    | some k => .ok (.bl ([t].any (isKind k)), false, h)
    | none => .bad) Q E := by cases d <;> exact run
  split at run
  · rename_i k e
    obtain ⟨ty, hk⟩ := vw_ty vs va e
    refine ⟨v, _, _, _, isKind k t, rfl, .ty _, ty, kit_ty (kit_all k hk t ht), ?_⟩
    have q := run.val vs (.bl _)
    simpa using q
  · exact False.elim run
/-- isinstance(x, (T, ..)) -/
theorem b_isiT {ts : List Nat} (ht : ∀ t ∈ ts, t ≤ 5) {cap : Bool} {d : D} {v : V} {Q : VK} {E : Value → Option Addr → HpC → Prop} {p : Addr} (vs : VS (kx X) H b G h) (hp : H p = some (.tup (ts.map fun t => V.ty (kName t)))) (va : Vw (kx X) H b G v d) (run : Run (kx X) ca cap H b G (evB (.isi ts) [d] h) Q E) : rIsiT X.K [v, .ref p] H Q := by
  have run : Run (kx X) ca cap H b G (match kindOf h d with
    | some k => .ok (.bl (ts.any (isKind k)), false, h)
    | none => .bad) Q E := by cases d <;> exact run
  split at run
  · rename_i k e
    obtain ⟨ty, hk⟩ := vw_ty vs va e
    exact ⟨v, p, _, _, ts.map fun t => Value.type (kName t), _, rfl, hp, cls_all ts, ty, kit_any hk ts ht, run.val vs (.bl _)⟩
  · exact False.elim run
end
end Rw

set_option maxHeartbeats 1000000
/-! L1g: subscripts, slices, [::-1], methods. -/
namespace HT
open PySem PySem.Spec PyProof.Rows
variable {prog : Program} {w : World} {A : Around} {E : Value → Shared → Prop} {s : Shared}
theorem adjust_rev (n : Nat) : Builtin.Slice.sliceAdjust none none (-1) (n : Int) = ((n : Int) - 1, -1) := by
  unfold Builtin.Slice.sliceAdjust
  simp
theorem places_rev (n : Nat) : Builtin.Slice.slicePlaces ((n : Int) - 1) (-1) (-1) = n := by
  unfold Builtin.Slice.slicePlaces
  have h1 : ¬ ((-1 : Int) > 0) := by decide
  simp only [h1, if_false]
  split <;> (first | omega | (simp; omega) | (simp))
theorem sliceApplied_rev {sl : Addr} {vs : Value} {n : Nat} {Q : Int × Int × Nat → Shared → Prop} (hs : s.heap.IsSliceOf sl .none .none vs) (ps : IsPart vs (some (-1)))
    (h : Q ((n : Int) - 1, -1, n) s) : wpAny (model prog w) A (Builtin.Slice.sliceApplied (.ref sl) (pure (n : Int))) Q E s := by
  obtain ⟨os, hos, hcs, hds⟩ := id hs
  unfold Builtin.Slice.sliceApplied Builtin.Slice.sliceFields
  refine wpAny_bind (wpAny_bind (wpAny_field hos hds (x := .none) rfl (wpAny_bind (wpAny_field hos hds (x := .none) rfl (wpAny_bind (wpAny_field hos hds (x := vs) rfl (wpAny_pure ?_)))))))
  refine wpAny_bind (slicePart_ ps ?_)
  show wpAny _ _ (if ((-1 : Int) == 0) = true then _ else _) _ _ s
  rw [if_neg (by decide)]
  refine wpAny_bind (slicePart_none (wpAny_bind (slicePart_none (wpAny_bind (wpAny_pure ?_)))))
  show wpAny _ _ (match Builtin.Slice.sliceAdjust none none (-1) (n : Int) with | (lo, hi) => pure (lo, (-1 : Int), Builtin.Slice.slicePlaces lo hi (-1))) _ _ s
  rw [adjust_rev n]
  show wpAny _ _ (pure ((n : Int) - 1, (-1 : Int), Builtin.Slice.slicePlaces ((n : Int) - 1) (-1) (-1))) _ _ s
  rw [places_rev]
  exact wpAny_pure h
theorem fm_congr {α β : Type} {f g : α → Option β} : ∀ {l : List α}, (∀ x ∈ l, f x = g x) → l.filterMap f = l.filterMap g
  | [], _ => rfl
  | x :: l, h => by
    rw [List.filterMap_cons, List.filterMap_cons, h x List.mem_cons_self, fm_congr fun y hy => h y (List.mem_cons_of_mem _ hy)]
theorem pick_rev (xs : Array Value) : ((List.range xs.size).filterMap fun (m : Nat) => xs[((xs.size : Int) - 1 + (m : Int) * (-1)).toNat]?).toArray = xs.toList.reverse.toArray := by
  have e : (List.range xs.size).filterMap (fun (m : Nat) => xs[((xs.size : Int) - 1 + (m : Int) * (-1)).toNat]?) = ((List.range xs.size).map fun k => xs.size - 1 - k).filterMap (xs[·]?) := by
    rw [List.filterMap_map]
    refine fm_congr fun m hm => ?_
    have hm := List.mem_range.mp hm
    show xs[((xs.size : Int) - 1 + (m : Int) * (-1)).toNat]? = xs[xs.size - 1 - m]?
    congr 1
    omega
  rw [e, PySem.W.krv_range, List.filterMap_reverse, PySem.W.krv_all]
theorem getItem_tuple_rev {t sl : Addr} {items : Array Value} {vs : Value} {Q : Value → Shared → Prop} (ht : IsTup s.heap t items) (hs : s.heap.IsSliceOf sl .none .none vs) (ps : IsPart vs (some (-1)))
    (h : Q (.ref s.heap.objs.size) { s with heap := s.heap.push { cls := .type "tuple", data := .seq items.toList.reverse.toArray } })
    (hsz : items.size ≤ sizeLine) : wpAny (model prog w) A (getItem (.ref t) (.ref sl)) Q E s := by
  have htake : sizeOk (.seq items.toList.reverse.toArray) := by
    show items.toList.reverse.toArray.size ≤ sizeLine
    rw [List.size_toArray, List.length_reverse, Array.length_toList]
    exact hsz
  obtain ⟨os, hos, hcs, hds⟩ := id hs
  have hTs : s.TypeIs (.ref sl) "slice" := ⟨os, hos, hcs⟩
  unfold getItem
  try with_reducible refine wpAny_holding ?_
  first | refine wpAny_bind (wpAny_pure ?_) | skip
  refine wpAny_bind (wpAny_sequenceKey ht.typeIs (by decide) ?_)
  refine wpAny_bind (wpAny_callSpecial?_slot (name := Str.ofString "__getitem__") ht.typeIs PyProof.Rows.slot_tuple_getitem
    (wpAny_call_entry PyProof.Rows.slot_tuple_getitem ht.typeIs entry_tuple_getitem ?_ (args_tuple_getitem _ _)))
  show wpAny _ _ (Builtin.Tuple.tupleItemsOf (.ref t) >>= _) _ _ s
  refine wpAny_bind (tupleItemsOf_ ht ?_)
  refine wpAny_bind (wpAny_typeOf hTs ?_)
  rw [if_pos (by decide)]
  refine wpAny_bind (sliceApplied_rev hs ps ?_)
  have hno : ¬ ((((items.size : Int) - 1) == 0 && (-1 : Int) == 1 && items.size == items.size) = true) := by simp
  show wpAny _ _ (if (((items.size : Int) - 1) == 0 && (-1 : Int) == 1 && items.size == items.size) = true then _ else _) _ _ s
  rw [if_neg hno, pick_rev]
  first
    | exact wpAny_bind (m := Builtin.Tuple.tupleExact _) (wpAny_newObj_type (wpAny_pure ⟨_, rfl, wpAny_pure h⟩) htake)
    | exact wpAny_bind (m := Builtin.Tuple.tupleExact _) (wpAny_newObj_type (wpAny_bind (wpAny_pure (wpAny_pure ⟨_, rfl, wpAny_pure h⟩))) htake)
    | exact wpAny_bind (wpAny_bind (m := Builtin.Tuple.tupleExact _) (wpAny_newObj_type (wpAny_pure (wpAny_pure ⟨_, rfl, wpAny_pure h⟩)) htake))
    | exact wpAny_bind (wpAny_bind (m := Builtin.Tuple.tupleExact _) (wpAny_newObj_type (wpAny_pure ⟨_, rfl, wpAny_pure h⟩) htake))
end HT
namespace Rw
open PySem PySem.Spec PyProof.Rows L2

/-! ### subscripts -/
def ixRun (a i : D) (h : Hp) : RV := (R.of (evIx a i h)).bind fun d => .ok (d, false, h)
theorem ixOf_eq (n : Nat) (i : Int) : ixOf n i = ixN n i := rfl
section
variable {X : Cx} {ca : Nat → Addr} {pins : List (Addr × Obj)} {s : Shared} {σ : L2.St} {H : HpC} {b : List Addr} {G : Addr → Prop} {h : Hp}
theorem of_run {α : Type} {cap : Bool} {o : Option α} {f : α → RV} {Q : VK} {E : Value → Option Addr → HpC → Prop} (run : Run (kx X) ca cap H b G ((R.of o).bind f) Q E) : ∃ k, o = some k ∧ Run (kx X) ca cap H b G (f k) Q E := by
  cases o with
  | some k => exact ⟨k, rfl, run⟩
  | none => exact False.elim run
theorem reps_atI {vs : List V} {ds : List D} {i : Int} {d : D} (r : Reps (kx X) H (wof b G) b vs ds) (e : ((ixOf ds.length i).bind fun j => ds[j]?) = some d) : ∃ v, atI vs i = some v ∧ Rep (kx X) H (wof b G) b v d := by
  obtain ⟨j, e1, e2⟩ := Option.bind_eq_some_iff.mp e
  obtain ⟨v, e3, r'⟩ := r.at e2
  refine ⟨v, ?_, r'⟩
  unfold atI
  rw [r.length, ← ixOf_eq, e1]
  exact e3
theorem lookD_kv : ∀ {kvs : List (Key × V)} {ds : List D} {k : Key}, Reps (kx X) H (wof b G) b (kvs.map (·.2)) ds → (∀ d, lookD (kvs.map fun p => kD p.1) ds (kD k) = some d → ∃ v, valV kvs k = some v ∧ Rep (kx X) H (wof b G) b v d) ∧ (lookD (kvs.map fun p => kD p.1) ds (kD k) = none → valV kvs k = none)
  | [], _, k, r => by
    cases r
    exact ⟨fun d e => by simp [lookD] at e, fun _ => valV_nil⟩
  | p :: kvs, ds, k, r => by
    cases r with
    | cons r t =>
      rw [List.map_cons]
      simp only [lookD, eqv_key]
      by_cases e : p.1 = k
      · rw [valV_pos e]
        simp only [e, decide_true, if_true]
        exact ⟨fun d z => ⟨_, rfl, by cases z; exact r⟩, fun z => by cases z⟩
      · rw [valV_neg e]
        simp only [e, decide_false, Bool.false_eq_true, if_false]
        exact lookD_kv t
theorem ix_all (hu : X.A.units + 80 < cLine) : IxR X (r2 (kx X) ca ixRun) := by
  intro value slice pins s σ H x y v u Q I rx ry ⟨da, db, h, b, G, E, cap, vs, va, vb, run0⟩ hs
  obtain ⟨d, e0, run⟩ := of_run run0
  clear run0
  have e := e0
  clear e0
  have gen : ixSeq h da db = some d → wpAny (model X.prog X.w) X.A (subscriptTail value slice v u) (EP X pins σ Q) X.xe s := fun e => by
    unfold ixSeq at e
    split at e
    · rename_i xs e1
      cases db with
      | int i =>
        cases vb.int
        obtain ⟨a, ws, rfl, hc, r⟩ := va.seq vs e1
        obtain ⟨w, e3, r'⟩ := reps_atI r e
        rcases hc with hc | hc
        · exact ix_list value slice pins s σ H _ _ v u Q I rx ry ⟨a, ws, i, w, rfl, rfl, hc, e3, run.val vs r'⟩ hs
        · exact ix_tup value slice pins s σ H _ _ v u Q I rx ry ⟨a, ws, i, w, rfl, rfl, hc, e3, run.val vs r'⟩ hs
      | _ => cases e
    · split at e
      · rename_i ks ws e1
        split at e
        · rename_i hk
          rw [Bool.and_eq_true] at hk
          obtain ⟨k, rfl⟩ := kD_of hk.1
          obtain ⟨a, kvs, rfl, hr, rfl, rd⟩ := va.dict vs e1
          cases key_of_kD vb
          obtain ⟨w, e2, r'⟩ := (lookD_kv rd).1 d e
          cases rx
          have ht : s.TypeIs (.ref a) "dict" := by
            obtain ⟨_, _, _, _, o, _, _, h1, h2, _⟩ := dk_rd I.hok hr
            exact ⟨o, h1, h2.1⟩
          exact tail_any (ops := [.ref a, u]) ht PySem.F.slot_dict_getitem.lookup (d_getItem (by omega) I (.inl ⟨kvs, k, hr, rfl, e2.symm⟩) ry fun w' s' I' rw' => ⟨w, H, I', rw', run.val vs r'⟩) hs
        · cases e
      · cases e
  cases da with
  | str z =>
    cases db with
    | int i =>
      simp only [evIx] at e
      split at e
      · rename_i hz
        cases va.str; cases vb.int
        split at e
        · rename_i j e1
          obtain ⟨c, e2, e3⟩ := Option.map_eq_some_iff.mp e
          subst e3
          refine ix_str value slice pins s σ H _ _ v u Q I rx ry ⟨z, i, c, rfl, rfl, le_line hz, ?_, run.val vs (.str _)⟩ hs
          unfold atI
          rw [Array.length_toList, ← ixOf_eq, e1]
          simpa using e2
        · cases e
      · cases e
    | _ => cases e
  | _ => exact gen e
/-! ### slices -/
theorem cutIx_sIx (n d : Nat) (o : Option Int) : cutIx n d o = HT.sIx n d o := by
  cases o with
  | none => rfl
  | some i =>
    show (if i < 0 then (max (i + n) 0).toNat else (min i n).toNat) = if i < 0 then (i + (n : Int)).toNat else min i.toNat n
    split <;> omega
theorem reps_cut {vs : List V} {ds : List D} (r : Reps (kx X) H (wof b G) b vs ds) (lo hi : Option Int) : Reps (kx X) H (wof b G) b (cutV vs lo hi) (cut ds lo hi) := by
  unfold cutV cut
  rw [r.length, cutIx_sIx, cutIx_sIx]
  exact (r.drop _).take _
def rCut (K : Kx) (ca : Nat → Addr) : V → Option Int → Option Int → HpC → VK → Prop := fun x lo hi H Q => ∃ d h b G E cap, VS K H b G h ∧ Vw K H b G x d ∧ Run K ca cap H b G (evCut d lo hi h) Q E
theorem sl_all : SlR X (rCut (kx X) ca) := by
  intro pins s σ H x v vl vu lo hi sl Q I rx hs pl pu ⟨d, h, b, G, E, cap, vs, va, run⟩
  have gen : Run (kx X) ca cap H b G (match listOf h d with
    | some xs => .ok (.lst (cut xs lo hi), true, h)
    | none => .bad) Q E → ∃ T id, typeLookup (.type T) "__getitem__" = pure (some (.builtin id)) ∧ s.TypeIs v T ∧ wpAny (model X.prog X.w) X.A (getItem v (.ref sl)) (EP X pins σ Q) X.xe s := fun run => by
    split at run
    · rename_i xs e
      obtain ⟨a, ws, rfl, hl, r⟩ := va.list vs e
      exact sl_list pins s σ H _ v vl vu lo hi sl Q I rx hs pl pu ⟨a, ws, rfl, hl, run.newL vs (reps_cut r lo hi)⟩
    · exact False.elim run
  cases d with
  | str z =>
    simp only [evCut] at run
    split at run
    · rename_i hz
      cases va.str
      refine sl_str pins s σ H _ v vl vu lo hi sl Q I rx hs pl pu ⟨z, rfl, le_line hz, ?_⟩
      have q := run.val vs (.str _)
      rw [cutIx_sIx, cutIx_sIx] at q
      exact q
    · exact False.elim run
  | tup xs =>
    have va' := va.tupR
    obtain ⟨a, ws, rfl, ht, r⟩ := va.tup
    cases rx
    obtain ⟨its, rv, p, hz⟩ := I.tuple ht.sq
    have hlen : its.toArray.size = ws.length := by rw [List.size_toArray]; exact rv.length.symm
    refine ⟨"tuple", _, PyProof.Rows.slot_tuple_getitem.lookup, p.typeIs, ?_⟩
    by_cases hw : HT.sIx ws.length 0 lo = 0 ∧ HT.sIx ws.length ws.length hi = ws.length
    · refine getItem_tuple_whole p hs pl pu (by rw [hlen]; exact hw) ?_
      have e : cut xs lo hi = xs := by
        unfold cut
        rw [cutIx_sIx, cutIx_sIx, ← r.length, hw.1, hw.2, List.drop_zero, Nat.sub_zero, r.length, List.take_length]
      have run : Run (kx X) ca cap H b G (.ok (.tup (cut xs lo hi), false, h)) Q E := run
      rw [e] at run
      exact ⟨.ref a, H, I, rfl, run.val vs va'⟩
    · refine HT.getItem_tuple_cut p hs pl pu (by rw [hlen]; exact hw) ?_ (by rw [hlen]; exact hz)
      rw [hlen]
      have r3 : Vals (cutV ws lo hi) ((its.toArray.toList.drop (HT.sIx ws.length 0 lo)).take (HT.sIx ws.length ws.length hi - HT.sIx ws.length 0 lo)) := (rv.drop _).take _
      obtain ⟨o, ho, hf, J⟩ := laidT (t' := s.toks) I r3 (Nat.le_trans (cutV_length ws lo hi) hz)
      exact ⟨.ref s.heap.objs.size, _, J, rfl, run.newT vs (reps_cut r lo hi) _ _ hf ho⟩
  | _ => exact gen run
/-! ### [::-1] -/
def revRun (r : D × Bool × Hp) : RV := match r.1 with
  | .tup xs => .ok (.tup xs.reverse, false, r.2.2)
  | d => match listOf r.2.2 d with
    | some xs => .ok (.lst xs.reverse, true, r.2.2)
    | none => .bad
def tRev (K : Kx) (ca : Nat → Addr) (te : TE) : TE := fun σ H Q => te σ H fun x H1 => ∃ d own h b G E cap, VS K H1 b G h ∧ Vw K H1 b G x d ∧ Run K ca cap H1 b G (revRun (d, own, h)) Q E
theorem pe_rev {e : Expr} {te : TE} {k : Nat} {p1 p2 p3 pos : Pos} (he : PE X e te) : PE X (.Subscript e (.Slice none none (some (.UnaryOp .USub (.Constant (.int 1) k p1) p2)) p3) pos) (tRev (kx X) ca te) := by
  refine ⟨fun pins s σ H Q I h => ?_⟩
  refine Subscript_ (thn (he.run pins s σ H _ I h) fun v s1 ⟨x, H1, I1, r1, d, own, h1, b1, G1, E1, cap, vs, va, run⟩ => ?_)
  have hst : PO X (some (.UnaryOp .USub (.Constant (.int 1) k p1) p2)) (tPart (tUn (rU fun i => .int (-i)) (tC (.int 1)))) := po_some (pe_un un_neg pe_int)
  refine wpAny_Slice (thn (po_none.run pins s1 σ H1 (fun o H2 => o = none ∧ H2 = H1) I1 ⟨rfl, rfl⟩) fun vl s2 ⟨l, H2, I2, pl, el, e2⟩ => ?_)
  subst el e2
  refine thn (po_none.run pins s2 σ H2 (fun o H3 => o = none ∧ H3 = H2) I2 ⟨rfl, rfl⟩) fun vu s3 ⟨u, H3, I3, pu, eu, e3⟩ => ?_
  subst eu e3
  refine thn (hst.run pins s3 σ H3 (fun o H4 => o = some (-1) ∧ H4 = H3) I3 ⟨1, rfl, -1, rfl, rfl, rfl⟩) fun ve s4 ⟨o, H4, I4, ps, eo, e4⟩ => ?_
  subst eo e4
  have I5 : Inv X pins σ H4 { s4 with heap := s4.heap.push { cls := .type "slice", data := .fields #[vl, vu, ve] } } := I4.kept (t' := s4.toks) fun b ob q => Heap.get?_push_of_some _ q
  have gen : Run (kx X) ca cap H4 b1 G1 (match listOf h1 d with
    | some xs => .ok (.lst xs.reverse, true, h1)
    | none => .bad) Q E1 → wpAny (model X.prog X.w) X.A (subscriptTail e (.Slice none none (some (.UnaryOp .USub (.Constant (.int 1) k p1) p2)) p3) v (.ref s4.heap.objs.size)) (EP X pins σ Q) X.xe { s4 with heap := s4.heap.push { cls := .type "slice", data := .fields #[vl, vu, ve] } } := fun run => by
    split at run
    · rename_i xs el
      obtain ⟨a, ws, rfl, hl, r⟩ := va.list vs el
      cases r1
      obtain ⟨its, rv, ht, hz⟩ := I5.list hl
      have hlen := rv.length
      refine tail_any (ops := [.ref a, .ref s4.heap.objs.size]) ht.isList.typeIs (PySem.slot_list_getitem.lookup) ?_ (by with_unfolding_all rfl)
      refine wpAny_getItem_list_slice ht.isList (Heap.IsSliceOf.new _ vl vu ve) pl pu ps (by decide) ?_ (by rw [List.size_toArray]; omega)
      rw [PySem.W.krv_pick]
      refine ⟨.ref _, _, I5.laid (t' := s4.toks) (o := .lst ws.reverse) (fun b ob q => Heap.get?_push_of_some _ q) (Nat.le_refl _) ?_, rfl, run.newL vs r.rev _ (I5.hok.fresh (Nat.le_refl _))⟩
      exact ⟨by rw [List.length_reverse]; exact hz, _, 0, rv.reverse, Heap.get?_push_size _ rfl⟩
    · exact False.elim run
  show wpAny (model X.prog X.w) X.A (subscriptTail e (.Slice none none (some (.UnaryOp .USub (.Constant (.int 1) k p1) p2)) p3) v (.ref s4.heap.objs.size)) (EP X pins σ Q) X.xe { s4 with heap := s4.heap.push { cls := .type "slice", data := .fields #[vl, vu, ve] } }
  cases d with
  | tup xs =>
    have run : Run (kx X) ca cap H4 b1 G1 (.ok (.tup xs.reverse, false, h1)) Q E1 := run
    obtain ⟨a, ws, rfl, ht, r⟩ := va.tup
    cases r1
    obtain ⟨its, rv, p, hz⟩ := I5.tuple ht.sq
    cases pl
    cases pu
    refine tail_any (ops := [.ref a, .ref s4.heap.objs.size]) p.typeIs (PyProof.Rows.slot_tuple_getitem.lookup) ?_ (by with_unfolding_all rfl)
    refine HT.getItem_tuple_rev p (Heap.IsSliceOf.new _ .none .none ve) ps ?_ (by rw [List.size_toArray, ← rv.length]; exact hz)
    have r3 : Vals ws.reverse its.toArray.toList.reverse := rv.reverse
    obtain ⟨o, ho, hf, J⟩ := laidT (t' := s4.toks) I5 r3 (by rw [List.length_reverse]; exact hz)
    exact ⟨.ref _, _, J, rfl, run.newT vs r.rev _ _ hf ho⟩
  | _ => exact gen run
end
end Rw

set_option maxHeartbeats 2000000
/-! L1h: methods. -/
namespace PySem.AutoSeq1
theorem list_extend_any (l : Addr) (items : Array Value) (n : Nat) (b : Addr) (items2 : Array Value) (n2 : Nat) (dd2 : Option Addr) (sl2 : Array (Option Value)) (hc0 : ¬(!items.isEmpty && Builtin.List.listTooLong (items.size + items2.size)) = true) (hc1 : items.size ≤ sizeLine) (hs2 : items.size + items2.size ≤ sizeLine + 1) :
    Meets (Builtin.«list.extend» ⟨[.ref l, .ref b], []⟩) (fun _ R s => s.heap.get? l = some { cls := .type "list", dict := none, data := .seq items n, slots := #[] } ∧ s.heap.get? b = some { cls := .type "list", dict := dd2, data := .seq items2 n2, slots := sl2 } ∧ R (.ok (.ret Value.none)) { s with heap := s.heap.update l (Obj.mapSeq fun x => x ++ items2), toks := s.toks }) :=
  .of_wp fun prog w A R s h => by
    obtain ⟨hp, g, d, tk, os⟩ := s; obtain ⟨hl, hb, h⟩ := h; have f1 := idx_int; have f2 := sub_tuple_tuple; have f3 := sub_list_list; have f4 := sub_tuple_list; have f5 := sub_list_tuple
    have hz' : (items ++ items2).size ≤ sizeLine + 1 := by rw [Array.size_append]; exact hs2
    wp_walk using (wpAny_updateSeq hl rfl (hz := hc1) (_hz' := hz')), wpAny_loadPart' hl, wpAny_loadPart' hb
    exact ⟨_, rfl, h⟩
end PySem.AutoSeq1
namespace Rw
open PySem PySem.Spec PyProof.Rows L2

structure MF (name : Str) (T id : String) : Prop where
  pa : PlainAttrs T
  slot : Slot T name id
  ty : typeOf (.builtin id) = pure (.type "method_descriptor")
/-- the value is of the type T, and it has no dict of its own -/
def TyS (X : Cx) (T : String) (x : V) (H : HpC) : Prop := ∀ (pins : List (Addr × Obj)) (s : Shared) (σ : L2.St) (v : Value), Inv X pins σ H s → RelV x v → s.TypeIs v T ∧ ∀ a, v = .ref a → ∃ ob, s.heap.get? a = some ob ∧ ob.dict = none
/-- o.name(..): what is called is found behind the receiver -/
def tMth (X : Cx) (name : Str) (to : TE) (ta : TA) : TE := fun σ H Q => to σ H fun x H1 => ∃ T id, MF name T id ∧ TyS X T x H1 ∧ ta σ H1 fun xs H2 => ∃ r, MtR X id r ∧ r x xs H2 Q
section
variable {X : Cx} {o e : Expr} {es : List Expr} {to : TE} {t : TA} {name : Str} {apos cpos : Pos}
theorem pe_mth0 (ho : PE X o to) (hbase : attributeBase o name X.env (eval o X.env) = eval o X.env) (hline : (apos.endLine == cpos.line) = true) : PE X (.Call (.Attribute o name apos) [] [] cpos) (tMth X name to tNil) := by
  refine ⟨fun pins s σ H Q I h => ?_⟩
  refine wpAny_Call_method0_late hbase hline (thn (ho.run pins s σ H _ I h) fun v s1 ⟨x, H1, I1, r1, T, id, F, ty, r, hm, q1⟩ => ?_)
  obtain ⟨h1, h2⟩ := ty pins s1 σ v I1 r1
  exact ⟨T, id, F.pa, F.slot, F.ty, h1, h2, Calls.callWith_builtin rfl (PySem.evalArgs_none (hm pins s1 σ H1 x [] v [] Q I1 r1 .nil q1))⟩
theorem pe_mth (ho : PE X o to) (ha : PA X (e :: es) t)
    (hbase : attributeBase o name X.env (eval o X.env) = eval o X.env)
    (hfew : ((backTo cpos (starEach (e :: es) X.env)).all (fun x => !x.1) && (backToKw cpos (keywordEach [] X.env)).all (fun x => x.1.isSome)
      && decide ((e :: es).length + ([] : List Keyword).length + (if ([] : List Keyword).isEmpty then 0 else 1) < 30)) = true)
    (hline : (apos.endLine == cpos.line) = true) (hs : starEach (e :: es) X.env = (false, eval e X.env) :: starEach es X.env) (hplain : (backTo cpos (starEach es X.env)).any (·.1) = false) :
    PE X (.Call (.Attribute o name apos) (e :: es) [] cpos) (tMth X name to t) := by
  refine ⟨fun pins s σ H Q I h => ?_⟩
  refine wpAny_Call_method_late hbase hfew hline rfl (thn (ho.run pins s σ H _ I h) fun v s1 ⟨x, H1, I1, r1, T, id, F, ty, q1⟩ => ?_)
  obtain ⟨h1, h2⟩ := ty pins s1 σ v I1 r1
  refine ⟨T, id, F.pa, F.slot, F.ty, h1, h2, ?_⟩
  have hA := ha.run cpos pins s1 σ H1 _ I1 q1
  rw [hs] at hA ⊢
  refine Calls.callWith_builtin (by show (false || (backTo cpos (starEach es X.env)).any (·.1)) = false; rw [hplain] <;> rfl) (Calls.evalArgs_plain ?_)
  exact thn hA fun us s2 ⟨vs, H2, I2, r2, r, hm, q2⟩ => hm pins s2 σ H2 x vs v us Q I2 r1 r2 q2
end

def mtName : Mt → Str
  | .index => "index" | .count => "count" | .get1 => "get" | .get2 => "get" | .pop0 => "pop" | .pop1 => "pop" | .append => "append" | .extend => "extend" | .insert => "insert" | .clear => "clear" | .setdef => "setdefault" | .remove => "remove"
def mtArgs : Mt → Nat
  | .index => 1 | .count => 1 | .get1 => 1 | .get2 => 2 | .pop0 => 0 | .pop1 => 1 | .append => 1 | .extend => 1 | .insert => 2 | .clear => 0 | .setdef => 2 | .remove => 1
theorem mf_append : MF "append" "list" "list.append" := ⟨F.plainAttrs_list, F.slot_list_append, F.type_list_append⟩
theorem mf_insert : MF "insert" "list" "list.insert" := ⟨F.plainAttrs_list, F.slot_list_insert, F.type_list_insert⟩
theorem mf_extend : MF "extend" "list" "list.extend" := ⟨F.plainAttrs_list, F.slot_list_extend, F.type_list_extend⟩
theorem mf_clear : MF "clear" "list" "list.clear" := ⟨F.plainAttrs_list, F.slot_list_clear, F.type_list_clear⟩
theorem mf_pop : MF "pop" "list" "list.pop" := ⟨F.plainAttrs_list, F.slot_list_pop, F.type_list_pop⟩
theorem mf_index : MF "index" "list" "list.index" := ⟨F.plainAttrs_list, F.slot_list_index, F.type_list_index⟩
theorem mf_tindex : MF "index" "tuple" "tuple.index" := ⟨F.plainAttrs_tuple, F.slot_tuple_index, F.type_tuple_index⟩
theorem mf_setd : MF "setdefault" "dict" "dict.setdefault" := ⟨F.plainAttrs_dict, F.slot_dict_setdefault, F.type_dict_setdefault⟩
theorem mf_get : MF "get" "dict" "dict.get" := ⟨F.plainAttrs_dict, F.slot_dict_get, F.type_dict_get⟩
section
variable {X : Cx} {ca : Nat → Addr} {H : HpC} {b : List Addr} {G : Addr → Prop} {h : Hp}
theorem tys_list {a : Addr} {ws : List V} (hl : SqL X.K H a ws) : TyS X "list" (.ref a) H := fun pins s σ v I r => tyV_is I r (.inl ⟨rfl, ws, hl⟩)
theorem tys_tup {a : Addr} {ws : List V} {W : Addr → Prop} (ht : TupAt X.K H W a ws) : TyS X "tuple" (.ref a) H := fun pins s σ v I r => by
  cases r
  rcases ht with ⟨o, ho, hd, _⟩ | ⟨o, its, n, hk, hc, hd, _⟩
  · obtain ⟨hq, _, its, rv, o', h1, h2, n, h3⟩ := (show ObjOk X.prog X.w H s.heap a (.frz o (.tup ws)) from I.hok a _ ho)
    rw [hq] at h1; cases h1
    exact ⟨⟨o, hq, h2⟩, fun c e => by cases e; exact ⟨o, hq, hd⟩⟩
  · exact ⟨⟨o, I.kIn a o hk, hc⟩, fun c e => by cases e; exact ⟨o, I.kIn _ o hk, hd⟩⟩
theorem tys_dict {a : Addr} {kvs : List (Key × V)} (hr : Rd H a (.dK kvs)) : TyS X "dict" (.ref a) H := fun pins s σ v I r => by
  cases r
  obtain ⟨_, _, _, _, o, _, _, e, ex, _⟩ := dk_rd I.hok hr
  exact ⟨⟨o, e, ex.1⟩, fun c e2 => by cases e2; exact ⟨o, e, ex.2.1⟩⟩
/-- xs.extend(ys), any list ys -/
def rExtA (K : PySem.W.Frag) : V → List V → HpC → VK → Prop := fun x vs H Q => ∃ l b xs zs, x = .ref l ∧ vs = [.ref b] ∧ H l = some (.lst xs) ∧ SqL K H b zs ∧ xs.length + zs.length ≤ sizeLine ∧ Q .non (upd H l (.lst (xs ++ zs)))
theorem mt_extA : MtR X "list.extend" (rExtA X.K) := by
  intro pins s σ H x vs v us Q I rx rv h
  obtain ⟨l, b, xs, zs, rfl, rfl, hH, hB, hz, q⟩ := h
  cases rx
  obtain ⟨u, rfl, ru⟩ := rv.one
  cases ru
  obtain ⟨z, its, n, r, hl, e⟩ := I.lstM hH
  obtain ⟨its2, r2, ⟨⟨cls2, dd2, dt2, sl2⟩, n2, e2, hc2, hd2, hdt2⟩, _⟩ := I.list hB
  simp only at hc2 hd2 hdt2
  subst hc2 hd2 hdt2
  have hl2 := r2.length
  have hsz : its.toArray.size + its2.toArray.size ≤ sizeLine := by rw [List.size_toArray, List.size_toArray]; omega
  have hlong : ¬ (!its.toArray.isEmpty && Builtin.List.listTooLong (its.toArray.size + its2.toArray.size)) = true := by
    rw [notLongL hsz, Bool.and_false]
    exact Bool.false_ne_true
  refine call_meets F.slot_list_extend ⟨_, e, rfl⟩ F.entry_list_extend (F.args_list_extend_2 _ _)
    (PySem.AutoSeq1.list_extend_any l its.toArray n b its2.toArray n2 none sl2 hlong (by rw [List.size_toArray]; omega) (by omega)) ⟨e, e2, ?_⟩
  refine ⟨.non, _, I.lset (its' := its ++ its2) hH e (by simp) (r.append r2) ?_, rfl, q⟩
  rw [List.length_append]
  omega
/-! ### index -/
theorem findD_some {x : D} : ∀ {xs : List D} {i j : Nat}, findD x xs i = some j → ∃ k y, j = i + k ∧ xs[k]? = some y ∧ eqv y x = true ∧ ∀ m z, m < k → xs[m]? = some z → eqv z x = false
  | [], _, _, e => by simp [findD] at e
  | y :: ys, i, j, e => by
    unfold findD at e
    split at e
    · rename_i q
      cases e
      exact ⟨0, y, rfl, rfl, q, fun m z hm => absurd hm (Nat.not_lt_zero _)⟩
    · rename_i q
      obtain ⟨k, w, rfl, h1, h2, h3⟩ := findD_some e
      refine ⟨k + 1, w, by omega, by simpa using h1, h2, fun m z hm hz => ?_⟩
      cases m with
      | zero =>
        have : y = z := by simpa using hz
        subst this
        simpa using q
      | succ m => exact h3 m z (by omega) (by simpa using hz)
theorem kind_list {r : D} {xs : List D} (e : listOf h r = some xs) : kindOf h r = some 3 := by
  cases r <;> first | (cases e; done) | rfl | skip
  rename_i n
  unfold listOf at e
  cases q : h[n]? with
  | none => simp only [q] at e; cases e
  | some c => cases c <;> simp only [q] at e <;> first | (cases e; done) | (simp only [kindOf, q])
theorem index_all (hu : X.A.units + 80 < cLine) {cap : Bool} {r x : D} {v y : V} {Q : VK} {E : Value → Option Addr → HpC → Prop} (vs : VS (kx X) H b G h) (vr : Vw (kx X) H b G v r) (vx : Vw (kx X) H b G y x) (run : Run (kx X) ca cap H b G (mthIx r x h) Q E) :
    ∃ k, kindOf h r = some k ∧ ∃ f, MtR X (if k = 4 then "tuple.index" else "list.index") f ∧ f v [y] H Q := by
  unfold mthIx at run
  split at run
  · rename_i xs e
    split at run
    · rename_i hp
      rw [Bool.and_eq_true] at hp
      have hs : shs 60 xs = true := by rw [shs_all]; exact hp.2
      split at run
      · rename_i j ej
        obtain ⟨k, z, rfl, h1, h2, h3⟩ := findD_some ej
        rw [Nat.zero_add] at run
        have q := run.val vs (.int _)
        have el := sh_lay 60 x hp.1
        have elx := shs_lay 60 xs hs
        have memx : ∀ z ∈ xs, shp z = true := fun z hz => List.all_eq_true.mp hp.2 z hz
        have ev : ∀ z ∈ xs, PyData.eqv (toP z) (toP x) = eqv z x := fun z hz => (eqv_toP z x ⟨_, memx z hz⟩ ⟨_, hp.1⟩).symm
        have hz : (toPl xs)[k]? = some (toP z) := by rw [toPl_map, List.getElem?_map, h1]; rfl
        have hhit : PyData.eqv (toP z) (toP x) = true := (ev z (List.mem_of_getElem? h1)).trans h2
        have hno : ∀ (m : Nat) (z' : PyData), m < k → (toPl xs)[m]? = some z' → PyData.eqv z' (toP x) = false := fun m z' hm e => by
          rw [toPl_map, List.getElem?_map] at e
          obtain ⟨z0, e0, rfl⟩ := Option.map_eq_some_iff.mp e
          exact (ev z0 (List.mem_of_getElem? e0)).trans (h3 m z0 hm e0)
        -- what both kinds need
        have core : ∀ (pins : List (Addr × Obj)) (s : Shared) (σ : L2.St) (us : List Value) (uy : Value) (ws : List V), Inv X pins σ H s → Vals ws us → Reps (kx X) H (wof b G) b ws xs → RelV y uy →
            ∃ hj : k < us.toArray.size, (∀ j (hj : j < us.toArray.size), SeqAt.EqAt X.A.in1 s us.toArray[j] uy (PyData.eqv (SeqAt.readOf s.heap us.toArray[j]) (toP x))) ∧ PyData.eqv (SeqAt.readOf s.heap us.toArray[k]) (toP x) = true ∧
              ∀ m (hm : m < us.toArray.size), m < k → PyData.eqv (SeqAt.readOf s.heap us.toArray[m]) (toP x) = false := fun pins s σ us uy ws I rv rr ry => by
          obtain ⟨bs, rx⟩ := dreads I ry vx hp.1
          obtain ⟨as, h4⟩ := seq_reads I rv rr hs
          have hn : us.length = (toPl xs).length := SeqAt.ReadsAll.length (toPl xs) us as h4
          have hmap : us.map (SeqAt.readOf s.heap) = toPl xs := SeqAt.readsAll_map (toPl xs) us as elx.1 h4
          obtain ⟨hjd, _⟩ := List.getElem?_eq_some_iff.mp hz
          have at_ : ∀ (m : Nat) (hm : m < us.toArray.size) (z' : PyData), (toPl xs)[m]? = some z' → SeqAt.readOf s.heap us.toArray[m] = z' := by
            intro m hm z' hz'
            have hml : m < us.length := by simpa using hm
            rw [← hmap, List.getElem?_map, List.getElem?_eq_getElem hml] at hz'
            have e1 : SeqAt.readOf s.heap us[m] = z' := Option.some.inj (show some (SeqAt.readOf s.heap us[m]) = some z' from hz')
            simpa using e1
          have hj : k < us.toArray.size := by
            have : k < us.length := by omega
            simpa using this
          have room : X.A.units + 1 + min (PyData.depthAll (toPl xs)) (toP x).depth < cLine := by omega
          have all := SeqAt.items_eqAt (A := X.A) (vs := us.toArray) (show ReadsAll s.heap us.toArray.toList (toPl xs) as from h4) rx elx.1 el.1 room
          refine ⟨hj, fun j hj => ?_, ?_, fun m hm hmk => ?_⟩
          · first
              | exact all _ (Array.getElem_mem hj)
              | exact all j hj
          · rw [at_ k hj _ hz]; exact hhit
          · have hm' : m < (toPl xs).length := by
              have : m < us.length := by simpa using hm
              omega
            have e0 : (toPl xs)[m]? = some (toPl xs)[m] := List.getElem?_eq_getElem hm'
            rw [at_ m hm _ e0]
            exact hno m _ hmk e0
        rcases seqOf_or e with rfl | e1
        · obtain ⟨a, ws, rfl, ht, rr⟩ := vr.tup
          refine ⟨4, rfl, fun x' xs' H' Q' => x' = .ref a ∧ xs' = [y] ∧ H' = H ∧ Q' (.int (k : Nat)) H, ?_, rfl, rfl, rfl, q⟩
          rintro pins s σ H' x' xs' v' us' Q' I rx rxs ⟨rfl, rfl, rfl, q'⟩
          cases rx
          obtain ⟨uy, rfl, ry⟩ := rxs.one
          obtain ⟨us, rv, ⟨⟨cls, dd, data, sls⟩, ho, hc, n, hdt⟩, hlen⟩ := I.tuple ht.sq
          simp only at hc hdt
          subst hc hdt
          obtain ⟨hj, c1, c2, c3⟩ := core pins s σ us uy ws I rv rr ry
          exact call_meets PySem.F.slot_tuple_index ⟨_, ho, rfl⟩ PySem.F.entry_tuple_index (PySem.F.args_tuple_index_2 _ _)
            (SeqAt.tuple_index2_found a us.toArray n dd sls uy (fun j => if hj : j < us.toArray.size then PyData.eqv (SeqAt.readOf s.heap us.toArray[j]) (toP x) else false) k hj (Nat.zero_le _) hj (by simp only [dif_pos hj]; exact c2) fun m hm _ hmk => by simp only [dif_pos hm]; exact c3 m hm hmk)
            ⟨ho, fun j hj => by simp only [dif_pos hj]; exact c1 j hj, ⟨.int k, _, I.tok _, ⟨_, rfl⟩, q'⟩⟩
        · obtain ⟨a, ws, rfl, hl, rr⟩ := vr.list vs e1
          refine ⟨3, kind_list e1, fun x' xs' H' Q' => x' = .ref a ∧ xs' = [y] ∧ H' = H ∧ Q' (.int (k : Nat)) H, ?_, rfl, rfl, rfl, q⟩
          rintro pins s σ H' x' xs' v' us' Q' I rx rxs ⟨rfl, rfl, rfl, q'⟩
          cases rx
          obtain ⟨uy, rfl, ry⟩ := rxs.one
          obtain ⟨us, rv, ⟨⟨cls, dd, data, sls⟩, n, ho, hc, hdn, hdt⟩, hlen⟩ := I.list hl
          simp only at hc hdt
          subst hc hdt
          obtain ⟨hj, c1, c2, c3⟩ := core pins s σ us uy ws I rv rr ry
          have hsl := sizeLine_eq
          have hvl := rv.length
          have hup : (k : Int) < 2 ^ 63 - 1 := by
            have : k < us.length := by simpa using hj
            omega
          exact call_meets PySem.F.slot_list_index ⟨_, ho, rfl⟩ PySem.F.entry_list_index (PySem.F.args_list_index_2 _ _)
            (SeqAt.list_index2_found a us.toArray n dd sls uy (fun j => if hj : j < us.toArray.size then PyData.eqv (SeqAt.readOf s.heap us.toArray[j]) (toP x) else false) k hj (Nat.zero_le _) hup (by simp only [dif_pos hj]; exact c2) fun m hm _ hmk => by simp only [dif_pos hm]; exact c3 m hm hmk)
            ⟨ho, fun j hj => by simp only [dif_pos hj]; exact c1 j hj, ⟨.int k, _, I.tok _, ⟨_, rfl⟩, q'⟩⟩
      · exact False.elim run
    · exact False.elim run
  · exact False.elim run
end
end Rw

set_option maxHeartbeats 2000000
/-! L1i: what changes a list or a dict. -/
namespace Rw
open PySem PySem.Spec PyProof.Rows L2

/-- a list's or dict's content -/
inductive Holds (K : Kx) (H : HpC) (W : Addr → Prop) (b : List Addr) : HO → D → Prop
  | lst {vs : List V} {ds : List D} : Reps K H W b vs ds → Holds K H W b (.lst vs) (.lst ds)
  | dct {kvs : List (Key × V)} {ds : List D} : Reps K H W b (kvs.map (·.2)) ds → Holds K H W b (.dK kvs) (.dct (kvs.map fun p => kD p.1) ds)
def ArgsOk (K : Kx) (cap : Bool) (H : HpC) (b : List Addr) (G : Addr → Prop) (vs : List V) (ds : List D) : Prop := if cap = true then Reps K H (wof b G) b vs ds else Vws K H b G vs ds
section
variable {K : Kx} {H : HpC} {W : Addr → Prop} {b : List Addr} {G : Addr → Prop} {h : Hp}
theorem top_hold {a : Addr} {d : D} (t : TopAt K H W b a d) : ∃ o, H a = some o ∧ Holds K H W b o d := by
  cases t with
  | lst e r => exact ⟨_, e, .lst r⟩
  | dct e r => exact ⟨_, e, .dct r⟩
theorem Holds.top {a : Addr} {o : HO} {d : D} (x : Holds K H W b o d) (e : H a = some o) : TopAt K H W b a d := by
  cases x with
  | lst r => exact .lst e r
  | dct r => exact .dct e r
theorem Holds.kept {H' : HpC} {W' : Addr → Prop} {b' : List Addr} {o : HO} {d : D} (k : Kept H W b H' W' b') (x : Holds K H W b o d) : Holds K H' W' b' o d := by
  cases x with
  | lst r => exact .lst (r.kept k)
  | dct r => exact .dct (r.kept k)
/-- a top is written -/
theorem Kept.put {a : Addr} {o : HO} (w : W a) : Kept H W b (upd H a o) W b :=
  ⟨fun x u e n => ⟨by rw [upd_ne fun z => n (by rw [z]; exact w)]; exact e, n⟩, fun _ _ h => h⟩
theorem Holds.put {a : Addr} {o : HO} {d : D} (w : W a) (x : Holds K H W b o d) : TopAt K (upd H a o) W b a d := (x.kept (Kept.put w)).top upd_same
theorem upd_self {a : Addr} {o : HO} (e : H a = some o) : upd H a o = H := by
  funext x
  by_cases z : x = a
  · rw [z, upd_same, e]
  · rw [upd_ne z]
theorem ArgsOk.rep1 {vs : List V} {d : D} (x : ArgsOk K true H b G vs [d]) : ∃ v, vs = [v] ∧ Rep K H (wof b G) b v d := by
  have x : Reps K H (wof b G) b vs [d] := x
  cases x with
  | cons r t => cases t; exact ⟨_, rfl, r⟩
theorem ArgsOk.rep2 {vs : List V} {d e : D} (x : ArgsOk K true H b G vs [d, e]) : ∃ v w, vs = [v, w] ∧ Rep K H (wof b G) b v d ∧ Rep K H (wof b G) b w e := by
  have x : Reps K H (wof b G) b vs [d, e] := x
  cases x with
  | cons r t =>
    cases t with
    | cons r2 t => cases t; exact ⟨_, _, rfl, r, r2⟩
theorem ArgsOk.vws {vs : List V} {ds : List D} (x : ArgsOk K false H b G vs ds) : Vws K H b G vs ds := by simpa [ArgsOk] using x
end
def contT : Cont → String
  | .lst _ => "list"
  | .dct _ _ => "dict"
section
variable {X : Cx} {H : HpC} {b : List Addr} {G : Addr → Prop} {h : Hp} {a : Addr}
theorem tys_top {c : Cont} {W : Addr → Prop} (t : TopAt (kx X) H W b a c.d) : TyS X (contT c) (.ref a) H := by
  cases c with
  | lst xs => cases t with | lst e r => exact tys_list (SqL.of e)
  | dct ks vs =>
    have t : TopAt (kx X) H W b a (.dct ks vs) := t
    cases t with | dct e r => exact tys_dict (.inl e)
theorem putK_map {kvs : List (Key × V)} {k : Key} {y : V} (h : k ∉ kvs.map (·.1)) : kvs.map (fun kv => if kv.1 = k then (kv.1, y) else kv) = kvs := by
  induction kvs with
  | nil => rfl
  | cons p r ih =>
    rw [List.map_cons, List.mem_cons, not_or] at h
    rw [List.map_cons, if_neg (fun e => h.1 e.symm), ih h.2]
theorem putK_nil {k : Key} {y : V} : putK ([] : List (Key × V)) k y = [(k, y)] := rfl
theorem putK_pos {p : Key × V} {kvs : List (Key × V)} {k : Key} {y : V} (e : p.1 = k) (nd : k ∉ kvs.map (·.1)) : putK (p :: kvs) k y = (p.1, y) :: kvs := by
  unfold putK
  rw [if_pos (by simp [e]), List.map_cons, if_pos e, putK_map nd]
theorem putK_neg {p : Key × V} {kvs : List (Key × V)} {k : Key} {y : V} (e : ¬ p.1 = k) : putK (p :: kvs) k y = p :: putK kvs k y := by
  unfold putK
  rw [List.any_cons]
  simp only [e, decide_false, Bool.false_or]
  split
  · rw [List.map_cons, if_neg e]
  · rfl
theorem putD_kv {W : Addr → Prop} : ∀ {kvs : List (Key × V)} {ds : List D} {k : Key} {y : V} {d : D}, Reps (kx X) H W b (kvs.map (·.2)) ds → Rep (kx X) H W b y d → (kvs.map (·.1)).Nodup →
    (putD (kvs.map fun p => kD p.1) ds (kD k) d).1 = (putK kvs k y).map (fun p => kD p.1) ∧ Reps (kx X) H W b ((putK kvs k y).map (·.2)) (putD (kvs.map fun p => kD p.1) ds (kD k) d).2
  | [], _, k, y, d, r, ry, _ => by
    cases r
    rw [putK_nil]
    exact ⟨by simp [putD], by simp only [putD, List.map_nil]; exact .cons ry .nil⟩
  | p :: kvs, ds, k, y, d, r, ry, nd => by
    cases r with
    | @cons v0 vs0 d0 ds0 r t =>
      rw [List.map_cons]
      simp only [putD, eqv_key]
      rw [List.map_cons] at nd
      have nd' := List.nodup_cons.mp nd
      by_cases e : p.1 = k
      · rw [putK_pos e (by rw [← e]; exact nd'.1)]
        simp only [e, decide_true, if_true]
        exact ⟨by simp, .cons ry t⟩
      · rw [putK_neg e]
        simp only [e, decide_false, Bool.false_eq_true, if_false]
        obtain ⟨i1, i2⟩ := putD_kv (k := k) t ry nd'.2
        exact ⟨by rw [List.map_cons, i1], .cons r i2⟩
theorem holds_put {W : Addr → Prop} {pins : List (Addr × Obj)} {s : Shared} {σ : L2.St} (I : Inv X pins σ H s) {kvs : List (Key × V)} {ds : List D} {k : Key} {y : V} {d : D} (e : H a = some (.dK kvs)) (r : Reps (kx X) H W b (kvs.map (·.2)) ds) (ry : Rep (kx X) H W b y d) :
    Holds (kx X) H W b (.dK (putK kvs k y)) (.dct (putD (kvs.map fun p => kD p.1) ds (kD k) d).1 (putD (kvs.map fun p => kD p.1) ds (kD k) d).2) := by
  obtain ⟨z, hd, vvs, rel, o, es, ep, h1, h2, h3, h4, h5, h6⟩ := dk_rd I.hok (.inl e)
  obtain ⟨i1, i2⟩ := putD_kv (k := k) r ry (by rw [rel.keys]; exact h6)
  rw [i1]
  exact .dct i2
def mutId : Mt → String
  | .append => "list.append" | .insert => "list.insert" | .clear => "list.clear" | .extend => "list.extend" | .pop0 => "list.pop" | .pop1 => "list.pop" | .setdef => "dict.setdefault" | _ => ""
def rMut (K : Kx) (m : Mt) : V → List V → HpC → VK → Prop := fun x xs H Q => ∃ a b G c as d c', x = .ref a ∧ TopAt K H (wof b G) b a c.d ∧ ArgsOk K m.keeps H b G xs as ∧ evMut m c as = some (d, c') ∧ ∀ v o', Holds K H (wof b G) b o' c'.d → Rep K H (wof b G) b v d → Q v (upd H a o')
theorem ArgsOk.nil {K : Kx} {cap : Bool} {vs : List V} (x : ArgsOk K cap H b G vs []) : vs = [] := by
  unfold ArgsOk at x
  split at x <;> (cases x; rfl)
theorem mt_mut (m : Mt) : MtR X (mutId m) (rMut (kx X) m) := by
  intro pins s σ H x xs v us Q I rx rxs ⟨a, b, G, c, as, d, c', e1, t, ao, e, q⟩
  subst e1
  unfold evMut at e
  split at e
  · rename_i zs y
    split at e
    · rename_i hz
      cases e
      cases t with
      | @lst ws _ eh r =>
        obtain ⟨w, rfl, ry⟩ := ao.rep1
        exact mt_append pins s σ H _ _ v us Q I rx rxs ⟨a, ws, w, rfl, rfl, eh, by rw [r.length]; exact lt_line hz, q .non _ (.lst (r.app (.cons ry .nil))) .non⟩
    · cases e
  · rename_i zs i y
    split at e
    · rename_i hz
      rw [Bool.and_eq_true, decide_eq_true_iff] at hz
      obtain ⟨h0, hz⟩ := hz
      have h0 : i = 0 := by simpa using h0
      subst h0
      cases e
      cases t with
      | @lst ws _ eh r =>
        obtain ⟨w, w2, rfl, ri, ry⟩ := ao.rep2
        cases ri
        refine mt_insert pins s σ H _ _ v us Q I rx rxs ⟨a, ws, 0, w2, rfl, rfl, eh, by rw [r.length]; exact lt_line hz, by decide, by decide, ?_⟩
        have e3 : ws.take (0 : Int).toNat ++ [w2] ++ ws.drop (0 : Int).toNat = w2 :: ws := by simp
        rw [e3]
        exact q .non _ (.lst (.cons ry r)) .non
    · cases e
  · cases e
    cases t with
    | @lst ws _ eh r =>
      have e2 := ao.nil
      subst e2
      exact mt_clear pins s σ H _ _ v us Q I rx rxs ⟨a, ws, rfl, rfl, eh, q .non _ (.lst .nil) .non⟩
  · rename_i zs ys
    split at e
    · rename_i hz
      cases e
      cases t with
      | @lst ws _ eh r =>
        obtain ⟨w, rfl, ry⟩ := ao.vws.one
        obtain ⟨c, w2, rfl, hl, r2⟩ := ry.lst
        exact mt_extA pins s σ H _ _ v us Q I rx rxs ⟨a, c, ws, w2, rfl, rfl, eh, hl, by rw [r.length, r2.length]; exact le_line hz, q .non _ (.lst (r.app r2)) .non⟩
    · cases e
  · rename_i zs
    split at e
    · rename_i y ey
      cases e
      cases t with
      | @lst ws _ eh r =>
        have e2 := ao.nil
        subst e2
        obtain ⟨w, ew, rw'⟩ := r.at ey
        exact mt_pop pins s σ H _ _ v us Q I rx rxs ⟨a, ws, w, rfl, rfl, eh, by rw [r.length]; exact ew, q w _ (.lst r.dropLast) rw'⟩
    · cases e
  · rename_i zs i
    split at e
    · rename_i k ek
      split at e
      · rename_i y ey
        split at e
        · rename_i hz
          cases e
          cases t with
          | @lst ws _ eh r =>
            obtain ⟨w, rfl, ry⟩ := ao.vws.one
            cases ry.int
            obtain ⟨w, ew, rw'⟩ := r.at ey
            obtain ⟨n1, n2, n3, n4⟩ := ixN_seq (show ixN zs.length i = some k from ek)
            have hm : maxLen < 2 ^ 62 := by decide
            refine mt_popAt pins s σ H _ _ v us Q I rx rxs ⟨a, ws, i, k, w, rfl, rfl, eh, by omega, by omega, by rw [r.length]; exact n1, ew, q w _ (.lst (r.eraseIdx k)) rw'⟩
        · cases e
      · cases e
    · cases e
  · rename_i ks zs k y
    split at e
    · rename_i hk
      rw [Bool.and_eq_true, Bool.and_eq_true, decide_eq_true_iff] at hk
      obtain ⟨⟨hk, hks⟩, hz⟩ := hk
      have t : TopAt (kx X) H (wof b G) b a (.dct ks zs) := t
      cases t with
      | @dct kvs _ eh r =>
        obtain ⟨w, w2, rfl, rk, ry⟩ := ao.rep2
        obtain ⟨k, rfl⟩ := kD_of hk
        cases key_of_kD (.rep rk)
        obtain ⟨uk, uy, rfl, ruk, ruy⟩ := rxs.two
        cases rx
        rw [List.length_map] at hz
        split at e
        · rename_i d0 ed
          cases e
          obtain ⟨w3, e3, r3⟩ := (lookD_kv r).1 _ ed
          refine d_setd I eh ruk ruy (lt_line hz) (fun v0 hv w' s' I' rw' => ?_) (fun hv => by rw [e3] at hv; cases hv)
          rw [e3] at hv; cases hv
          have q2 := q w3 (.dK kvs) (.dct r) r3
          rw [upd_self eh] at q2
          exact ⟨w3, _, I', rw', q2⟩
        · rename_i ed
          cases e
          have e3 := (lookD_kv r).2 ed
          exact d_setd I eh ruk ruy (lt_line hz) (fun v0 hv => by rw [e3] at hv; cases hv) fun _ w' s' I' rw' => ⟨w2, _, I', rw', q w2 _ (holds_put I eh r ry) ry⟩
    · cases e
  · cases e
theorem mf_mut {m : Mt} {c c' : Cont} {as : List D} {d : D} (e : evMut m c as = some (d, c')) : MF (mtName m) (contT c) (mutId m) := by
  unfold evMut at e
  split at e <;> first
    | exact mf_append
    | exact mf_insert
    | exact mf_clear
    | exact mf_extend
    | exact mf_pop
    | exact mf_setd
    | cases e
end
end Rw

set_option maxHeartbeats 2000000
/-! L2a: what is walked. -/
namespace PySem
open Sem (wp)
open AutoSeq1 (wpAny_loadPart')
theorem meets_enumerate_newT (l : Addr) (items : Array Value) (n : Nat) (dct : Option Addr) (sl : Array (Option Value)) :
    Meets (Builtin.«enumerate.__new__» ⟨[.type "enumerate", .ref l], []⟩) (fun _ R s => s.heap.get? l = some { cls := .type "tuple", dict := dct, data := .seq items n, slots := sl } ∧
      R (.ok (.ret (.ref (s.heap.push { cls := .type "tuple_iterator", data := .fields #[.ref l, .int 0 0] }).objs.size)))
        { s with heap := (s.heap.push { cls := .type "tuple_iterator", data := .fields #[.ref l, .int 0 0] }).push { cls := .type "enumerate", data := .fields #[.none, .bool false, .ref s.heap.objs.size, rawInt 0, .none, .none] } }) :=
  .of_wp fun prog w A R s h => by
    obtain ⟨hp, g, d, tk, os⟩ := s; obtain ⟨hl, h⟩ := h
    have hsub := sub_enumerate
    have hL : Heap.IsTuple (Shared.heap ⟨hp, g, d, tk, os⟩) l items := ⟨_, hl, rfl, n, rfl⟩
    wp_walk using wpAny_loadPart' hl
    refine wpAny_stack_any fun st => wpAny_pure ?_
    split
    · rename_i c _ _ _ _ _
      cases (c == Value.type "enumerate")
      · wp_walk using wpAny_loadPart' hl, wpAny_pyIter_tuple hL
        exact ⟨_, rfl, h⟩
      · wp_walk using wpAny_loadPart' hl, wpAny_pyIter_tuple hL
        exact ⟨_, rfl, h⟩
    · wp_walk using wpAny_loadPart' hl, wpAny_pyIter_tuple hL
      exact ⟨_, rfl, h⟩
theorem call_enumerate_tuple {prog : Program} {w : World} {A : Around} {E : Value → Shared → Prop} {s : Shared} {l : Addr} {items : Array Value} {Q : Value → Shared → Prop} (hL : s.heap.IsTuple l items)
    (h : ∀ h', IsEnum h' (s.heap.objs.size + 1) s.heap.objs.size 0 .none → h'.IsTupleIter s.heap.objs.size l 0 → h'.objs.size = s.heap.objs.size + 2 →
      (∀ b o, s.heap.get? b = some o → h'.get? b = some o) → Q (.ref (s.heap.objs.size + 1)) { s with heap := h' }) :
    wpAny (model prog w) A (call (.type "enumerate") [.ref l]) Q E s := by
  obtain ⟨⟨c, dct, dt, sl⟩, hl, hc, n, hd⟩ := hL
  replace hc : c = .type "tuple" := hc
  replace hd : dt = .seq items n := hd
  subst hc hd
  refine callType_new F.called_enumerate (by decide) (F.typeCall_enumerate_1 _) (F.newCall_enumerate_1 _) (fun obj => F.args_object_init_2 obj _) F.entry_enumerate_new
    (meets_enumerate_newT l items n dct sl) ⟨hl, ?_⟩
  have hz : (s.heap.push { cls := .type "tuple_iterator", data := .fields #[.ref l, .int 0 0] }).objs.size = s.heap.objs.size + 1 := Heap.size_push ..
  show _ ∧ _
  rw [hz]
  have he : IsEnum ((s.heap.push { cls := .type "tuple_iterator", data := .fields #[.ref l, .int 0 0] }).push
      { cls := .type "enumerate", data := .fields #[.none, .bool false, .ref s.heap.objs.size, rawInt 0, .none, .none] }) (s.heap.objs.size + 1) s.heap.objs.size 0 .none := by
    have := Heap.get?_push_size (s.heap.push { cls := .type "tuple_iterator", data := .fields #[.ref l, .int 0 0] })
      (o := { cls := .type "enumerate", data := .fields #[.none, .bool false, .ref s.heap.objs.size, rawInt 0, .none, .none] }) rfl
    rw [hz] at this; exact this
  refine ⟨⟨_, he, rfl⟩, h _ he ⟨_, Heap.get?_push_of_some _ (Heap.get?_push_size _ rfl), rfl, rfl⟩ (by rw [Heap.size_push, hz]) fun b o x => Heap.get?_push_of_some _ (Heap.get?_push_of_some _ x)⟩
end PySem
namespace Rw
open PySem PySem.Spec PyProof.Rows L2

/-! ### enumerate(tuple) -/
def IteT (K : PySem.W.Frag) (a : Addr) : L2.It :=
  ⟨fun i H => ∃ (xs : List V) (x : V), SqT K H a xs ∧ xs[i]? = some x, fun i H v H' => ∃ T x, v = .ref T ∧ H T = none ∧ H' = upd H T (.tup [.int (i : Nat), x]) ∧ ∀ xs, SqT K H a xs → xs[i]? = some x, fun i H => ∃ xs : List V, SqT K H a xs ∧ xs.length ≤ i⟩
theorem turn_enumT {P : Program} {w : World} {K : PySem.W.Frag} {elts : List Expr} {kk : Nat} {tpos : Pos} (a e it : Addr) (hai : a ≠ it) (hae : a ≠ e) :
    Turn P w K (.Tuple elts kk tpos) (IteT K a) [e, it] e (fun i h => (∃ old, IsEnum h e it ((i : Nat) : Int) old) ∧ h.IsTupleIter it a i ∧ e ≠ it) where
  mem := by simp
  obj := fun i h st b hb => by
    obtain ⟨⟨old, he⟩, ⟨o, ho, hc, hd⟩, _⟩ := st
    have e' : b = e ∨ b = it := by simpa using hb
    rcases e' with z | z
    · rw [z]; exact ⟨_, he, fun v q => nomatch q⟩
    · rw [z]; exact ⟨o, ho, fun v q => by rw [hd] at q; cases q⟩
  keep := fun i h h' st k => let ⟨⟨old, he⟩, hi, hne⟩ := st; ⟨⟨old, k e (by simp) _ he⟩, hi.at fun o q => k it (by simp) o q, hne⟩
  item := by
    intro X hP hw hK hc i pins s σ H E I hf st hg
    subst hP hw hK
    obtain ⟨⟨old, he⟩, hit, hne⟩ := st
    obtain ⟨xs, x, hq, hx⟩ := hg
    obtain ⟨its, rv, p, hz⟩ := I.tuple hq
    obtain ⟨u, hu, ru⟩ := rv.get hx
    have hel : e < s.heap.objs.size := Heap.lt_size he
    have hil : it < s.heap.objs.size := by obtain ⟨_, q, _⟩ := hit; exact Heap.lt_size q
    have D := Draws.tuple (prog := X.prog) (w := X.w) (A := X.A.in1) (I.ok.hd hc) it a hai its.toArray
    have hlt : i < its.toArray.size := by
      obtain ⟨hlt, _⟩ := List.getElem?_eq_some_iff.mp hu
      simpa using hlt
    refine wpAny_pyNext_enum_itemD D he ⟨hit, p⟩ hlt hne (fun z => by
      have z' : e = it ∨ e = a := by simpa using z
      exact z'.elim hne fun q => hae q.symm) fun y h' tk hy ho hit' hT hsz hk => ?_
    have hyu : y = u := by
      have : its.toArray[i]? = some y := hy
      rw [show its.toArray[i]? = some u by simpa using hu] at this
      exact (Option.some.inj this).symm
    subst hyu
    refine ⟨_, rfl, wpAny_letOwnedTupleGo_enum (s := { s with heap := h', toks := tk + 1 }) ho fun h'' he' sb => ?_⟩
    have hT2 : h''.get? s.heap.objs.size = some { cls := .type "tuple", data := .seq #[.int i tk, y] } := (sb.2 _ (Nat.ne_of_gt hel)).trans hT
    have new : ObjOk X.prog X.w (upd H s.heap.objs.size (.tup [.int (i : Nat), x])) h'' s.heap.objs.size (.tup [.int (i : Nat), x]) :=
      ⟨by show 2 ≤ sizeLine; decide, [.int i tk, y], .cons ⟨_, rfl⟩ (.cons ru .nil), ⟨_, hT2, rfl, _, rfl⟩⟩
    have I1 : Inv X pins σ (upd H s.heap.objs.size (.tup [.int (i : Nat), x])) { s with heap := h'', toks := tk + 1 } :=
      I.turnedNew (ch := [e, it]) (fun b ob hb q => (sb.2 b (fun z => hb (by simp [z]))).trans (hk b ob (fun z => hb (by simp [z])) (fun z => hb (by simp [z])) q)) hf (Nat.le_refl _) new
    refine ⟨.ref s.heap.objs.size, _, I1, rfl, ⟨_, x, rfl, I.hok.fresh (Nat.le_refl _), rfl, fun ys hy => by rw [I.tuple_inj hy hq]; exact hx⟩, ⟨⟨y, ?_⟩, hit'.1.at fun o q => (sb.2 it (Ne.symm hne)).trans q, hne⟩, fun b hb => ?_⟩
    · have e1 : ((i + 1 : Nat) : Int) = (i : Int) + 1 := by omega
      rw [e1]; exact he'
    · have hb' : b < s.heap.objs.size := by
        have e' : b = e ∨ b = it := by simpa using hb
        rcases e' with z | z
        · rw [z]; exact hel
        · rw [z]; exact hil
      rw [upd_ne (Nat.ne_of_lt hb')]
      exact (hf b hb).1
  done := by
    intro X hP hw hK hc i pins s σ H E I hf st hg
    subst hP hw hK
    obtain ⟨⟨old, he⟩, hit, hne⟩ := st
    obtain ⟨xs, hq, hx⟩ := hg
    obtain ⟨its, rv, p, hz⟩ := I.tuple hq
    obtain ⟨f0, f1, f2, f3, f4, f5⟩ := hf it (by simp)
    have hl := rv.length
    have hT : s.TypeIs (.ref e) "enumerate" := ⟨_, he, rfl⟩
    unfold pyNext
    refine wpAny_bind (wpAny_attempt (wpAny_callSpecial?_slot (name := Str.ofString "__next__") hT F.slot_enumerate_next
      (wpAny_call_entry F.slot_enumerate_next hT F.entry_enumerate_next ?_ (F.args_enumerate_next_1 _))))
    show wpAny _ _ (field (.ref e) 2 >>= _) _ _ _
    refine wpAny_bind (wpAny_field he rfl (x := .ref it) rfl ?_)
    refine wpAny_bind (wpAny_nextOf_tuple_end (I.ok.hd hc) hit p (by simp; omega) fun h' x he' hx' => ?_)
    obtain ⟨o, ho, hc'⟩ := hx'
    refine wpAny_bind (wpAny_isInstance (T := "StopIteration") (b := true) ⟨o, ho, hc'⟩ isSubtype_stop ?_)
    exact wpAny_pure ⟨rfl, I.turned (t' := s.toks) (fun b o hb q => he' b o hb q) f0 f1 f3 f4 f5⟩
  self := fun A i s Q E st h => let ⟨⟨_, he⟩, _⟩ := st; wpAny_pyIter_enum he h
def iEnumA (K : PySem.W.Frag) (ta : TA) : TI := fun σ H R => ta σ H fun vs H1 => ∃ a xs, vs = [.ref a] ∧ ((SqL K H1 a xs ∧ R (Ite K a) H1) ∨ (SqT K H1 a xs ∧ R (IteT K a) H1))
theorem pi_enumA {X : Cx} {e : Expr} {ta : TA} {p pos tpos : Pos} {elts : List Expr} {kk : Nat} (hg : Gl X "enumerate") (hm : X.mg "enumerate" = none) (ha : PA X [e] ta) (hs : starEach [e] X.env = [(false, eval e X.env)]) :
    PI X (.Tuple elts kk tpos) (.Call (.Name "enumerate" p) [e] [] pos) (iEnumA X.K ta) := by
  refine ⟨fun pins s σ H R I h => ?_⟩
  refine Call_ (ld_blt I hg hm boot_enumerate (PyProof.Rows.callWith_type1 (thn (ha.run pos pins s σ H _ I h) fun us s1 ⟨vs, H1, I1, r1, q1⟩ => ?_) hs rfl))
  obtain ⟨a, xs, ex, q⟩ := q1
  subst ex
  cases r1 with
  | cons r rr =>
    cases rr
    cases r
    have fp : ∀ b ∈ [s1.heap.objs.size + 1, s1.heap.objs.size], FpOk X pins H1 b := fun b hb => by
      have e' : b = s1.heap.objs.size + 1 ∨ b = s1.heap.objs.size := by simpa using hb
      have hle : s1.heap.objs.size ≤ b := by
        rcases e' with z | z
        · rw [z]; exact Nat.le_add_right _ _
        · rw [z]; exact Nat.le_refl _
      exact I1.fpOk hle (I1.hok.fresh hle)
    rcases q with ⟨hq, q⟩ | ⟨hq, q⟩
    · obtain ⟨its, rv, p', hz⟩ := I1.list hq
      refine call_enumerate_list p'.isList fun h' he hit hsz hk => wpAny_pyIter_enum he ?_
      have I2 : Inv X pins σ H1 { s1 with heap := h' } := I1.kept (t' := s1.toks) hk
      exact ⟨s1.heap.objs.size + 1, [s1.heap.objs.size + 1, s1.heap.objs.size], _, _, H1, rfl, I2, turn_enum a (s1.heap.objs.size + 1) s1.heap.objs.size, ⟨⟨.none, he⟩, hit, Nat.succ_ne_self _⟩, fp, q⟩
    · obtain ⟨its, rv, p', hz⟩ := I1.tuple hq
      have hal : a < s1.heap.objs.size := IsTup.lt p'
      refine call_enumerate_tuple p' fun h' he hit hsz hk => wpAny_pyIter_enum he ?_
      have I2 : Inv X pins σ H1 { s1 with heap := h' } := I1.kept (t' := s1.toks) hk
      exact ⟨s1.heap.objs.size + 1, [s1.heap.objs.size + 1, s1.heap.objs.size], _, _, H1, rfl, I2, turn_enumT a (s1.heap.objs.size + 1) s1.heap.objs.size (Nat.ne_of_lt hal) (Nat.ne_of_lt (Nat.lt_succ_of_lt hal)), ⟨⟨.none, he⟩, hit, Nat.succ_ne_self _⟩, fp, q⟩
/-- a list or a tuple, whichever comes -/
def iSeq (K : PySem.W.Frag) (te : TE) : TI := fun σ H R => te σ H fun x H1 => ∃ a xs, x = .ref a ∧ ((SqL K H1 a xs ∧ R (Itl K a) H1) ∨ (SqT K H1 a xs ∧ R (Itt K a) H1))
theorem pi_seq {X : Cx} {tg e : Expr} {te : TE} (he : PE X e te) : PI X tg e (iSeq X.K te) := by
  refine ⟨fun pins s σ H R I h => ?_⟩
  refine thn (he.run pins s σ H _ I h) fun v s1 ⟨x, H1, I1, r1, a, xs, ex, q⟩ => ?_
  subst ex
  cases r1
  have fp : ∀ b ∈ [s1.heap.objs.size], FpOk X pins H1 b := fun b hb => by
    have e : b = s1.heap.objs.size := by simpa using hb
    subst e
    exact I1.fpOk (Nat.le_refl _) (I1.hok.fresh (Nat.le_refl _))
  rcases q with ⟨hq, q⟩ | ⟨hq, q⟩
  · obtain ⟨its, rv, p, hz⟩ := I1.list hq
    refine wpAny_pyIter_list p.isList ?_
    exact ⟨s1.heap.objs.size, [s1.heap.objs.size], _, _, H1, rfl, I1.kept (t' := s1.toks) fun b o e => Heap.get?_push_of_some _ e, turn_list a _, ⟨_, Heap.get?_push_size _ rfl, rfl, rfl⟩, fp, q⟩
  · obtain ⟨its, rv, p, hz⟩ := I1.tuple hq
    refine wpAny_pyIter_tuple (show s1.heap.IsTuple a its.toArray from p) ?_
    exact ⟨s1.heap.objs.size, [s1.heap.objs.size], _, _, H1, rfl, I1.kept (t' := s1.toks) fun b o e => Heap.get?_push_of_some _ e, turn_tuple a _, ⟨_, Heap.get?_push_size _ rfl, rfl, rfl⟩, fp, q⟩
end Rw

set_option maxHeartbeats 2000000
/-! L2b: readings from the interpreter; targets; what is walked. -/
namespace Rw
open PySem PySem.Spec PyProof.Rows L2

def CtxOk (K : Kx) (cx : Option Exn) (dd : Addr) (H : HpC) (b : List Addr) (G : Addr → Prop) : Prop := ∀ x, cx = some x → XAt K H b G dd x
structure Sx where
  K : Kx
  ca : Nat → Addr
  P : Pg
  cx : Option Exn
  dd : Addr
  exv : Option (Nat × V)
  W : WX
/-- all that a body's code stands on -/
structure Bd (Y : Sx) (env : Env) (h : Hp) (σ : L2.St) (H : HpC) (b : List Addr) (G : Addr → Prop) : Prop where
  vs : VS Y.K H b G h
  sl : Slots Y.K env σ H b G
  ln : env.length ≤ σ.length
  cx : CtxOk Y.K Y.cx Y.dd H b G
  ev : ∀ p, Y.exv = some p → σ[p.1]? = some (some p.2)
section
variable {K : Kx} {ca : Nat → Addr} {cx : Option Exn} {dd : Addr} {env : Env} {h h' : Hp} {σ : L2.St} {H H' H2 : HpC} {b b' b2 : List Addr} {G G' : Addr → Prop}
theorem XAt.ext {x : Exn} (q : XAt K H b G dd x) (e : Ext H b G H' b' G') : XAt K H' b' G' dd x := by
  obtain ⟨fs, e1, n, r⟩ := q
  have k := e.kept.keep dd _ e1 n
  refine ⟨fs, k.1, k.2, fun f d z => ?_⟩
  obtain ⟨v, z1, z2⟩ := r f d z
  exact ⟨v, z1, z2.kept e.kept⟩
theorem XAt.less {x : Exn} (q : XAt K H b G dd x) (e : ∀ a, G' a → G a) : XAt K H b G' dd x := q.ext (Ext.less Ext.refl e)
theorem CtxOk.ext (q : CtxOk K cx dd H b G) (e : Ext H b G H' b' G') : CtxOk K cx dd H' b' G' := fun x hx => (q x hx).ext e
theorem Bd.ext {Y : Sx} (B : Bd Y env h σ H b G) (x : Ext H b G H' b' G') (hG : ∀ a, G a → G' a) (v : VS Y.K H' b' G' h') : Bd Y env h' σ H' b' G' := ⟨v, B.sl.ext B.vs x hG, B.ln, B.cx.ext x, B.ev⟩
theorem Bd.on {Y : Sx} (B : Bd Y env h σ H b G) (x : Ext H b G H' b' G) (v : VS Y.K H' b' G h') : Bd Y env h' σ H' b' G := B.ext x (fun _ z => z) v

/-! ### ends -/
def RunR {α : Type} (K : Kx) (ca : Nat → Addr) (H : HpC) (b : List Addr) (G : Addr → Prop) (r : R α) (ok : α → HpC → List Addr → Prop) (E : L2.XK) : Prop :=
  match r with
  | .ok a => ∀ H' b', Ext H b G H' b' G → ok a H' b'
  | .exn x h' => ∀ dd H' b', Ext H b G H' b' G → VS K H' b' G h' → XAt K H' b' G dd x → E (.ref (ca x.cls)) (some dd) H'
  | .bad => False
/-- what is wanted of a result at a heap -/
structure FinP (K : Kx) (ca : Nat → Addr) (G : Addr → Prop) (E : L2.XK) {β : Type} (F : R β → HpC → List Addr → Prop) : Prop where
  ext : ∀ {r : R β} {H H' : HpC} {b b' : List Addr}, F r H b → Ext H b G H' b' G → F r H' b'
  exn : ∀ {x : Exn} {h' : Hp} {H : HpC} {b : List Addr}, F (.exn x h') H b → ∀ dd H' b', Ext H b G H' b' G → VS K H' b' G h' → XAt K H' b' G dd x → E (.ref (ca x.cls)) (some dd) H'
  bad : ∀ {H : HpC} {b : List Addr}, ¬ F .bad H b
theorem finRun {cap : Bool} {Q : VK} {E : L2.XK} : FinP K ca G E (fun r H b => Run K ca cap H b G r Q E) := by
  refine ⟨fun {r H H' b b'} x e => ?_, fun x => x, fun x => x⟩
  cases r with
  | ok p =>
    obtain ⟨d, own, h'⟩ := p
    exact fun v H2 b2 G2 e2 s2 r2 => x v H2 b2 G2 (e.trans e2) s2 r2
  | exn y h' => exact fun dd H2 b2 e2 s2 r2 => x dd H2 b2 (e.trans e2) s2 r2
  | bad => exact x
theorem finRunR {α : Type} {ok : α → HpC → List Addr → Prop} {E : L2.XK} : FinP K ca G E (fun r H b => RunR K ca H b G r ok E) := by
  refine ⟨fun {r H H' b b'} x e => ?_, fun x => x, fun x => x⟩
  cases r with
  | ok p => exact fun H2 b2 e2 => x H2 b2 (e.trans e2)
  | exn y h' => exact fun dd H2 b2 e2 s2 r2 => x dd H2 b2 (e.trans e2) s2 r2
  | bad => exact x
theorem FinP.step {β : Type} {F : R β → HpC → List Addr → Prop} {E : L2.XK} (P : FinP K ca G E F) {cap : Bool} {r : RV} {f : D × Bool × Hp → R β} {Q : VK} (x : F (r.bind f) H b)
    (hq : ∀ d own h' v H' b' G', r = .ok (d, own, h') → Ext H b G H' b' G → VS K H' b' G' h' → Res K cap H' b' G v d own G' → F (f (d, own, h')) H' b' → Q v H') : Run K ca cap H b G r Q E := by
  cases r with
  | ok p =>
    obtain ⟨d, own, h'⟩ := p
    intro v H' b' G' e s r
    exact hq d own h' v H' b' G' rfl (r.ext e) s r (P.ext x (r.ext e))
  | exn y h' => exact P.exn x
  | bad => exact P.bad x
theorem FinP.stepR {α β : Type} {F : R β → HpC → List Addr → Prop} {E : L2.XK} (P : FinP K ca G E F) {r : R α} {f : α → R β} {ok : α → HpC → List Addr → Prop} (x : F (r.bind f) H b)
    (hq : ∀ a H' b', r = .ok a → Ext H b G H' b' G → F (f a) H' b' → ok a H' b') : RunR K ca H b G r ok E := by
  cases r with
  | ok p => exact fun H' b' e => hq p H' b' rfl e (P.ext x e)
  | exn y h' => exact P.exn x
  | bad => exact P.bad x
end

/-! ### the readings -/
def semE (Y : Sx) (cap : Bool) (e : E) : TE := fun σ H Q => ∃ env h b G, Bd Y env h σ H b G ∧ Run Y.K Y.ca cap H b G (evE Y.P Y.cx cap e env h) Q (WE Y.W σ)
def okL (K : Kx) (cap : Bool) (G : Addr → Prop) (Q : List V → HpC → Prop) : List D × Hp → HpC → List Addr → Prop := fun p H b => VS K H b G p.2 → ∀ vs, ArgsOk K cap H b G vs p.1 → Q vs H
def semEs (Y : Sx) (cap : Bool) (es : Es) : TA := fun σ H Q => ∃ env h b G, Bd Y env h σ H b G ∧ RunR Y.K Y.ca H b G (evEs Y.P Y.cx cap es env h) (okL Y.K cap G Q) (WE Y.W σ)
def okB (K : Kx) (G : Addr → Prop) (Q : Bool → HpC → Prop) : Bool × Hp → HpC → List Addr → Prop := fun p H b => VS K H b G p.2 → Q p.1 H
def semB (Y : Sx) (e : E) : TT := fun σ H Q => ∃ env h b G, Bd Y env h σ H b G ∧ RunR Y.K Y.ca H b G (asBool (evE Y.P Y.cx false e env h)) (okB Y.K G Q) (WE Y.W σ)
def okO (K : Kx) (G : Addr → Prop) (Q : Option Int → HpC → Prop) : Option Int × Hp → HpC → List Addr → Prop := fun p H b => VS K H b G p.2 → Q p.1 H
def semO (Y : Sx) (o : Oe) : TO := fun σ H Q => ∃ env h b G, Bd Y env h σ H b G ∧ RunR Y.K Y.ca H b G (evO Y.P Y.cx o env h) (okO Y.K G Q) (WE Y.W σ)

theorem _root_.L2.PE.imp {X : Cx} {x : Expr} {t t' : TE} (p : PE X x t) (i : ∀ σ H Q, t' σ H Q → t σ H Q) : PE X x t' := ⟨fun pins s σ H Q I h => p.run pins s σ H Q I (i σ H Q h)⟩
theorem _root_.L2.PT.imp {X : Cx} {x : Expr} {t t' : TT} (p : PT X x t) (i : ∀ σ H Q, t' σ H Q → t σ H Q) : PT X x t' := ⟨fun pins s σ H Q I h => p.run pins s σ H Q I (i σ H Q h)⟩
theorem _root_.L2.PW.imp {X : Cx} {x : Expr} {t t' : TT} (p : PW X x t) (i : ∀ σ H Q, t' σ H Q → t σ H Q) : PW X x t' := ⟨fun w pins s σ H Q I h => p.run w pins s σ H Q I (i σ H Q h)⟩
theorem _root_.L2.PA.imp {X : Cx} {x : List Expr} {t t' : TA} (p : PA X x t) (i : ∀ σ H Q, t' σ H Q → t σ H Q) : PA X x t' := ⟨fun pos pins s σ H Q I h => p.run pos pins s σ H Q I (i σ H Q h)⟩
theorem _root_.L2.PO.imp {X : Cx} {x : Option Expr} {t t' : TO} (p : PO X x t) (i : ∀ σ H Q, t' σ H Q → t σ H Q) : PO X x t' := ⟨fun pins s σ H Q I h => p.run pins s σ H Q I (i σ H Q h)⟩
theorem _root_.L2.PI.imp {X : Cx} {tg x : Expr} {t t' : TI} (p : PI X tg x t) (i : ∀ σ H Q, t' σ H Q → t σ H Q) : PI X tg x t' := ⟨fun pins s σ H Q I h => p.run pins s σ H Q I (i σ H Q h)⟩
theorem _root_.L2.PG.imp {X : Cx} {x : Expr} {t t' : TG} (p : PG X x t) (i : ∀ v σ H Q, t' v σ H Q → t v σ H Q) : PG X x t' := ⟨fun pins s σ H v u Q I r h => p.run pins s σ H v u Q I r (i v σ H Q h)⟩
theorem _root_.L2.PGs.imp {X : Cx} {x : List Expr} {t t' : TGs} (p : PGs X x t) (i : ∀ v σ H Q, t' v σ H Q → t v σ H Q) : PGs X x t' := ⟨fun pins s σ H v u Q I r h => p.run pins s σ H v u Q I r (i v σ H Q h)⟩
theorem _root_.L2.PS.imp {X : Cx} {x : Stmt} {t t' : TS} (p : PS X x t) (i : ∀ D σ H, t' D σ H → t D σ H) : PS X x t' := ⟨fun pins s σ H D I h => p.run pins s σ H D I (i D σ H h)⟩
theorem _root_.L2.PSs.imp {X : Cx} {x : List Stmt} {t t' : TS} (p : PSs X x t) (i : ∀ D σ H, t' D σ H → t D σ H) : PSs X x t' := ⟨fun pins s σ H D I h => p.run pins s σ H D I (i D σ H h)⟩
theorem _root_.L2.PTs.imp {X : Cx} {x : List Expr} {t t' : TT} (p : PTs X x t) (i : ∀ σ H Q, t' σ H Q → t σ H Q) : PTs X x t' := ⟨fun pins s σ H Q I h => p.run pins s σ H Q I (i σ H Q h)⟩

/-! ### targets -/
/-- an item: a value, or (pr) a pair just made -/
def ItemOk (K : Kx) (H : HpC) (b : List Addr) (G : Addr → Prop) (pr : Bool) (v : V) (d : D) : Prop :=
  if pr = true then ∃ T vs ds, v = .ref T ∧ H T = some (.tup vs) ∧ d = .tup ds ∧ Reps K H (wof b G) b vs ds else Rep K H (wof b G) b v d
mutual
def tgSlots : Tg → List Nat
  | .n i => [i]
  | .t ts => tgsSlots ts
def tgsSlots : Tgs → List Nat
  | .nil => []
  | .cons t r => tgSlots t ++ tgsSlots r
end
def Closed (K : Kx) (H : HpC) (b : List Addr) (G : Addr → Prop) (is : List Nat) (SI : Env → L2.St → Prop) : Prop := ∀ env σ i v d, i ∈ is → SI env σ → i < env.length → Rep K H (wof b G) b v d → SI (env.set i (some ⟨d, false⟩)) (σ.set i (some v))
def isN : Tg → Bool
  | .n _ => true
  | _ => false
def semT (K : Kx) (t : Tg) : TG := fun v σ H Q => ∃ env b G pr d env' SI, Closed K H b G (tgSlots t) SI ∧ SI env σ ∧ ItemOk K H b G pr v d ∧ (pr = true → isN t = false) ∧ asgT t d env = some env' ∧ ∀ σ', SI env' σ' → Q σ' H
def semTs (K : Kx) (t : Tgs) : TGs := fun vs σ H Q => ∃ env b G ds env' SI, Closed K H b G (tgsSlots t) SI ∧ SI env σ ∧ Reps K H (wof b G) b vs ds ∧ asgTs t ds env = some env' ∧ ∀ σ', SI env' σ' → Q σ' H
/-- a name that may be stored -/
def stoB (sc : Scope) (fb : Str → Bool) (y : Str) : Bool := match sc.names.lookup y with
  | some .local => true
  | some .cell => fb y
  | _ => false
mutual
def chkT (N : List Str) (sc : Scope) (fb : Str → Bool) : Tg → Expr → Bool
  | .n i, .Name y _ => decide (N[i]? = some y) && stoB sc fb y
  | .t ts, .Tuple es _ _ => chkTs N sc fb ts es
  | _, _ => false
def chkTs (N : List Str) (sc : Scope) (fb : Str → Bool) : Tgs → List Expr → Bool
  | .nil, [] => true
  | .cons t r, e :: es => chkT N sc fb t e && chkTs N sc fb r es
  | _, _ => false
end
theorem stoB_ok {sc : Scope} {fb : Str → Bool} {y : Str} (h : stoB sc fb y = true) : Loc sc y ∧ (fb y = true ∨ sc.names.lookup y = some .local) := by
  unfold stoB at h
  split at h
  · rename_i e; exact ⟨.inl e, .inr e⟩
  · rename_i e; exact ⟨.inr e, .inl h⟩
  · cases h
theorem _root_.L2.PG.or {X : Cx} {x : Expr} {t u : TG} (p : PG X x t) (q : PG X x u) : PG X x (fun v σ H Q => t v σ H Q ∨ u v σ H Q) := ⟨fun pins s σ H v w Q I r h => h.elim (fun h => p.run pins s σ H v w Q I r h) fun h => q.run pins s σ H v w Q I r h⟩
theorem each_tg {X : Cx} {N : List Str} {sc : Scope} {fb : Str → Bool} : ∀ {ts : Tgs} {es : List Expr}, chkTs N sc fb ts es = true → (assignEach es X.env) = es.map fun e => (false, assign e X.env)
  | .nil, [], _ => rfl
  | .nil, _ :: _, h => by simp [chkTs] at h
  | .cons _ _, [], h => by simp [chkTs] at h
  | .cons t r, e :: es, h => by
    simp only [chkTs, Bool.and_eq_true] at h
    have ih := each_tg (X := X) h.2
    have he : assignEach (e :: es) X.env = (false, assign e X.env) :: assignEach es X.env := by
      cases e <;> first
        | rfl
        | (cases t <;> simp [chkT] at h)
    rw [he, ih, List.map_cons]
theorem asgTs_len : ∀ {ts : Tgs} {ds : List D} {env env' : Env}, asgTs ts ds env = some env' → ∀ {N : List Str} {sc : Scope} {fb : Str → Bool} {es : List Expr}, chkTs N sc fb ts es = true → ds.length = es.length
  | .nil, [], _, _, _, _, _, _, [], _ => rfl
  | .nil, [], _, _, _, _, _, _, _ :: _, h => by simp [chkTs] at h
  | .nil, _ :: _, _, _, e, _, _, _, _, _ => by simp [asgTs] at e
  | .cons _ _, [], _, _, e, _, _, _, _, _ => by simp [asgTs] at e
  | .cons _ _, _ :: _, _, _, _, _, _, _, [], h => by simp [chkTs] at h
  | .cons t r, d :: ds, env, env', e, _, _, _, x :: es, h => by
    simp only [chkTs, Bool.and_eq_true] at h
    simp only [asgTs] at e
    split at e
    · rw [List.length_cons, List.length_cons, asgTs_len e h.2]
    · cases e
section
variable {X : Cx} {fb : Str → Bool} {sc : Scope}
mutual
theorem pg_T (hN : X.N.Nodup) (hc : X.calm = true) (hsc : X.env.scope = sc) (hf : ∀ y, fb y = true → X.fn y = true) : ∀ (t : Tg) (e : Expr), chkT X.N sc fb t e = true → PG X e (semT (kx X) t)
  | .n i, .Name y _, h => by
    simp only [chkT, Bool.and_eq_true, decide_eq_true_iff] at h
    obtain ⟨l1, l2⟩ := stoB_ok h.2
    refine (pg_name hN h.1 (by rw [hsc]; exact l1) (l2.elim (fun z => .inl (hf y z)) fun z => .inr (by rw [hsc]; exact z))).imp ?_
    rintro v σ H Q ⟨env, b, G, pr, d, env', SI, cl, si, it, hpr, e, q⟩
    have hp : pr = false := by
      cases pr with
      | false => rfl
      | true => have := hpr rfl; simp [isN] at this
    subst hp
    simp only [asgT] at e
    split at e
    · rename_i hi
      cases e
      exact q _ (cl env σ i v d (by simp [tgSlots]) si hi (by simpa [ItemOk] using it))
    · cases e
  | .t ts, .Tuple es k pos, h => by
    simp only [chkT] at h
    have ea := each_tg (X := X) h
    refine ((pg_tup (n := es.length) hc (pg_Ts hN hc hsc hf ts es h) (by rw [ea, List.length_map]) (by rw [ea]; simp [List.findIdx?_map, List.findIdx?_eq_none_iff])).or
      (pg_lst (n := es.length) hc (pg_Ts hN hc hsc hf ts es h) (by rw [ea, List.length_map]) (by rw [ea]; simp [List.findIdx?_map, List.findIdx?_eq_none_iff]))).imp ?_
    rintro v σ H Q ⟨env, b, G, pr, d, env', SI, cl, si, it, hpr, e, q⟩
    have cl' : Closed (kx X) H b G (tgsSlots ts) SI := fun env σ i v d hi => cl env σ i v d (by simpa [tgSlots] using hi)
    simp only [asgT] at e
    split at e
    · rename_i ds
      have hl := asgTs_len e h
      unfold ItemOk at it
      split at it
      · obtain ⟨T, vs, ds', e1, e2, e3, r⟩ := it
        cases e3
        exact .inl ⟨T, vs, e1, SqT.of e2, by rw [r.length, hl], env, b, G, ds, env', SI, cl', si, r, e, q⟩
      · obtain ⟨a, vs, e1, ht, r⟩ := (Vw.rep it).tup
        exact .inl ⟨a, vs, e1, ht.sq, by rw [r.length, hl], env, b, G, ds, env', SI, cl', si, r, e, q⟩
    · rename_i ds
      have hl := asgTs_len e h
      unfold ItemOk at it
      split at it
      · obtain ⟨T, vs, ds', e1, e2, e3, r⟩ := it
        cases e3
      · obtain ⟨a, vs, e1, ht, r⟩ := (Vw.rep it).lst
        exact .inr ⟨a, vs, e1, ht, by rw [r.length, hl], env, b, G, ds, env', SI, cl', si, r, e, q⟩
    · cases e
  | .n _, .Tuple _ _ _, h => by simp [chkT] at h
theorem pg_Ts (hN : X.N.Nodup) (hc : X.calm = true) (hsc : X.env.scope = sc) (hf : ∀ y, fb y = true → X.fn y = true) : ∀ (t : Tgs) (es : List Expr), chkTs X.N sc fb t es = true → PGs X es (semTs (kx X) t)
  | .nil, [], _ => by
    refine pgs_nil.imp ?_
    rintro vs σ H Q ⟨env, b, G, ds, env', SI, cl, si, r, e, q⟩
    cases ds with
    | nil =>
      cases r
      cases e
      exact ⟨rfl, q σ si⟩
    | cons _ _ => simp [asgTs] at e
  | .cons t r, e :: es, h => by
    have h' := h
    simp only [chkTs, Bool.and_eq_true] at h
    have ea := each_tg (X := X) h'
    have eb := each_tg (X := X) h.2
    refine (pgs_cons (pg_T hN hc hsc hf t e h.1) (pg_Ts hN hc hsc hf r es h.2) (by rw [ea, eb]; simp)).imp ?_
    rintro vs σ H Q ⟨env, b, G, ds, env', SI, cl, si, rr, e, q⟩
    cases ds with
    | nil => simp [asgTs] at e
    | cons d ds =>
      cases rr with
      | @cons v vr _ _ r1 r2 =>
        simp only [asgTs] at e
        split at e
        · rename_i env1 e1
          refine ⟨v, vr, rfl, env, b, G, false, d, env1, SI, fun env σ i v d hi => cl env σ i v d (by simp [tgsSlots, hi]), si, by simpa [ItemOk] using r1, (fun z => by cases z), e1, fun σ' si' => ?_⟩
          exact ⟨env1, b, G, ds, env', SI, fun env σ i v d hi => cl env σ i v d (by simp [tgsSlots, hi]), si', r2, e, q⟩
        · cases e
  | .nil, _ :: _, h => by simp [chkTs] at h
  | .cons _ _, [], h => by simp [chkTs] at h
end
end
end Rw

set_option maxHeartbeats 2000000
/-! L2c: what is walked. -/
namespace Rw
open PySem PySem.Spec PyProof.Rows L2

mutual
theorem beq_eq : ∀ {x y : D}, D.beq x y = true → x = y
  | .non, y, h => by cases y <;> simp [D.beq] at h; rfl
  | .bl _, y, h => by cases y <;> simp [D.beq] at h; rw [h]
  | .int _, y, h => by cases y <;> simp [D.beq] at h; rw [h]
  | .str _, y, h => by cases y <;> simp [D.beq] at h; rw [h]
  | .tup xs, y, h => by cases y <;> simp [D.beq] at h; rw [beqs_eq h]
  | .lst xs, y, h => by cases y <;> simp [D.beq] at h; rw [beqs_eq h]
  | .dct ks vs, y, h => by cases y <;> simp [D.beq] at h; rw [beqs_eq h.1, beqs_eq h.2]
  | .set xs, y, h => by cases y <;> simp [D.beq] at h; rw [beqs_eq h]
  | .ref _, y, h => by cases y <;> simp [D.beq] at h; rw [h]
theorem beqs_eq : ∀ {xs ys : List D}, D.beqs xs ys = true → xs = ys
  | [], ys, h => by cases ys <;> simp [D.beqs] at h; rfl
  | x :: xs, ys, h => by
    cases ys <;> simp [D.beqs] at h
    rw [beq_eq h.1, beqs_eq h.2]
end

/-- how a later heap stands to an earlier one -/
def RlC (cap : Bool) (H1 : HpC) (b1 : List Addr) (G1 : Addr → Prop) (H : HpC) (b : List Addr) (G : Addr → Prop) : Prop := Kept H1 (wof b1 G1) b1 H (wof b G) b ∧ (cap = false → Ext H1 b1 G1 H b G ∧ ∀ a, G1 a → G a)
def JOk (K : Kx) (Rl : HpC → List Addr → (Addr → Prop) → Prop) (J : L2.It) (pr : Bool) (src : D) (ds : List D) : Prop := ∀ H b G h i, VS K H b G h → Rl H b G → stays src ds h = true →
  (∀ d, ds[i]? = some d → J.go i H ∧ ∀ x H', J.yld i H x H' → Ext H b G H' b G ∧ (∀ a ∈ b, H' a = H a) ∧ ItemOk K H' b G pr x d) ∧ (ds.length ≤ i → J.stop i H)
def okI (K : Kx) (cap : Bool) (G : Addr → Prop) (pr : Bool) (R : L2.It → HpC → Prop) : D × List D × Hp → HpC → List Addr → Prop := fun p H b => VS K H b G p.2.2 → ∀ J, JOk K (RlC cap H b G) J pr p.1 p.2.1 → R J H
def prW : It → Bool
  | .enum _ => true
  | .zip _ _ => true
  | _ => false
def semI (Y : Sx) (cap : Bool) (w : It) : TI := fun σ H R => ∃ env h b G, Bd Y env h σ H b G ∧ RunR Y.K Y.ca H b G (evI Y.P Y.cx cap w env h) (okI Y.K cap G (prW w) R) (WE Y.W σ)
section
variable {K : Kx} {H H1 : HpC} {b b1 : List Addr} {G G1 G' : Addr → Prop} {h h1 : Hp} {cap own : Bool} {v : V} {d : D}
theorem listOf_later {xs : List D} (e : listOf h1 d = some xs) (st : stays d xs h = true) : listOf h d = some xs := by
  cases d with
  | lst ys => exact e
  | ref n =>
    simp only [stays] at st
    split at st
    · rename_i ys q
      rw [beqs_eq st] at q
      simp only [listOf, q]
    · cases st
  | _ => cases e
/-- what Res tells: its own top forgotten -/
def SrcV (K : Kx) (cap : Bool) (H : HpC) (b : List Addr) (G : Addr → Prop) (v : V) (d : D) : Prop := if cap = true then Rep K H (wof b G) b v d else Vw K H b G v d
theorem Res.src (s : VS K H b G' h) (r : Res K cap H b G v d own G') : VS K H b G h ∧ SrcV K cap H b G v d := by
  cases cap with
  | true => exact r.rep s
  | false => exact r.vw s
theorem SrcV.vw (r : SrcV K cap H b G v d) : Vw K H b G v d := by
  cases cap with
  | true => exact .rep r
  | false => exact r
theorem SrcV.later (s1 : VS K H1 b1 G1 h1) (r : SrcV K cap H1 b1 G1 v d) (rl : RlC cap H1 b1 G1 H b G) : Vw K H b G v d := by
  cases cap with
  | true => exact .rep (Rep.kept rl.1 r)
  | false => exact Vw.ext s1 (rl.2 rfl).1 (rl.2 rfl).2 r
theorem item_ok {H' : HpC} {pr : Bool} {x : V} (hp : pr = false) (r : Rep K H' (wof b G) b x d) : ItemOk K H' b G pr x d := by subst hp; simpa [ItemOk] using r
theorem jok_list {xs : List D} (s1 : VS K H1 b1 G1 h1) {a : Addr} (e : listOf h1 d = some xs) (r : SrcV K cap H1 b1 G1 (.ref a) d) : JOk K (RlC cap H1 b1 G1) (Itl K.f a) false d xs := by
  intro H b G h i vs rl st
  obtain ⟨a', ws, ea, hl, rr⟩ := (r.later s1 rl).list vs (listOf_later e st)
  cases ea
  refine ⟨fun d0 e0 => ?_, fun hi => ⟨ws, hl, by rw [rr.length]; exact hi⟩⟩
  obtain ⟨w, ew, rw'⟩ := rr.at e0
  refine ⟨⟨ws, w, hl, ew⟩, fun x H' ⟨e1, e2⟩ => ?_⟩
  subst e1
  have := e2 ws hl
  rw [ew] at this
  cases this
  exact ⟨Ext.refl, fun _ _ => rfl, item_ok rfl rw'⟩
theorem jok_tup {xs : List D} (s1 : VS K H1 b1 G1 h1) {a : Addr} (r : SrcV K cap H1 b1 G1 (.ref a) (.tup xs)) : JOk K (RlC cap H1 b1 G1) (Itt K.f a) false (.tup xs) xs := by
  intro H b G h i vs rl st
  obtain ⟨a', ws, ea, hl, rr⟩ := (r.later s1 rl).tup
  cases ea
  refine ⟨fun d0 e0 => ?_, fun hi => ⟨ws, hl.sq, by rw [rr.length]; exact hi⟩⟩
  obtain ⟨w, ew, rw'⟩ := rr.at e0
  refine ⟨⟨ws, w, hl.sq, ew⟩, fun x H' ⟨e1, e2⟩ => ?_⟩
  subst e1
  have := e2 ws hl.sq
  rw [ew] at this
  cases this
  exact ⟨Ext.refl, fun _ _ => rfl, item_ok rfl rw'⟩
theorem rng_get {lo : Int} {n i : Nat} {d0 : D} (e : (rng lo n)[i]? = some d0) : i < n ∧ d0 = .int (lo + i) := by
  unfold rng at e
  rw [List.getElem?_map] at e
  obtain ⟨j, e1, e2⟩ := Option.map_eq_some_iff.mp e
  obtain ⟨h1, h2⟩ := List.getElem?_eq_some_iff.mp e1
  rw [List.getElem_range] at h2
  rw [List.length_range] at h1
  subst h2
  exact ⟨h1, e2.symm⟩
theorem jok_rng {Rl : HpC → List Addr → (Addr → Prop) → Prop} (lo : Int) (n : Nat) : JOk K Rl (Itr lo n) false .non (rng lo n) := by
  intro H b G h i vs rl st
  refine ⟨fun d0 e0 => ?_, fun hi => by show n ≤ i; simpa [rng] using hi⟩
  obtain ⟨hi, rfl⟩ := rng_get e0
  refine ⟨hi, fun x H' ⟨e1, e2⟩ => ?_⟩
  subst e1 e2
  exact ⟨Ext.refl, fun _ _ => rfl, item_ok rfl (.int _)⟩
theorem enumD_get : ∀ {xs : List D} {k i : Nat} {d0 : D}, (enumD k xs)[i]? = some d0 → ∃ x, xs[i]? = some x ∧ d0 = .tup [.int ((k + i : Nat) : Int), x]
  | [], _, _, _, e => by simp [enumD] at e
  | x :: xs, k, 0, d0, e => by
    simp [enumD] at e
    exact ⟨x, rfl, by rw [← e]; simp⟩
  | x :: xs, k, i + 1, d0, e => by
    obtain ⟨y, e1, e2⟩ := enumD_get (xs := xs) (k := k + 1) (i := i) (by simpa [enumD] using e)
    exact ⟨y, by simpa using e1, by rw [e2]; congr 3; omega⟩
theorem enumD_len : ∀ {xs : List D} {k : Nat}, (enumD k xs).length = xs.length
  | [], _ => rfl
  | _ :: xs, k => by simp [enumD, enumD_len]
theorem zipD_get : ∀ {xs ys : List D} {i : Nat} {d0 : D}, (zipD xs ys)[i]? = some d0 → ∃ x y, xs[i]? = some x ∧ ys[i]? = some y ∧ d0 = .tup [x, y]
  | [], _, _, _, e => by simp [zipD] at e
  | _ :: _, [], _, _, e => by simp [zipD] at e
  | x :: xs, y :: ys, 0, d0, e => by
    simp [zipD] at e
    exact ⟨x, y, rfl, rfl, e.symm⟩
  | x :: xs, y :: ys, i + 1, d0, e => by
    obtain ⟨a, c, e1, e2, e3⟩ := zipD_get (xs := xs) (ys := ys) (i := i) (by simpa [zipD] using e)
    exact ⟨a, c, by simpa using e1, by simpa using e2, e3⟩
theorem zipD_len : ∀ {xs ys : List D}, (zipD xs ys).length = min xs.length ys.length
  | [], _ => by simp [zipD]
  | _ :: _, [] => by simp [zipD]
  | _ :: xs, _ :: ys => by simp [zipD, zipD_len]
/-- a pair just made -/
theorem pair_item {T : Addr} {vs : List V} {ds : List D} {h : Hp} (s : VS K H b G h) (e : H T = none) (r : Reps K H (wof b G) b vs ds) : Ext H b G (upd H T (.tup vs)) b G ∧ (∀ a ∈ b, upd H T (.tup vs) a = H a) ∧ ItemOk K (upd H T (.tup vs)) b G true (.ref T) (.tup ds) := by
  have x := Ext.laid (o := .tup vs) s e
  refine ⟨x, fun a m => upd_ne fun z => (s.fresh e).1 (z ▸ m), ?_⟩
  unfold ItemOk
  rw [if_pos rfl]
  exact ⟨T, vs, ds, rfl, upd_same, rfl, r.kept x.kept⟩
theorem jok_enumL {xs : List D} (s1 : VS K H1 b1 G1 h1) {a : Addr} (r : SrcV K cap H1 b1 G1 (.ref a) (.lst xs)) : JOk K (RlC cap H1 b1 G1) (Ite K.f a) true .non (enumD 0 xs) := by
  intro H b G h i vs rl st
  obtain ⟨a', ws, ea, hl, rr⟩ := (r.later s1 rl).lst
  cases ea
  refine ⟨fun d0 e0 => ?_, fun hi => ⟨ws, hl, by rw [rr.length]; rwa [enumD_len] at hi⟩⟩
  obtain ⟨y, e1, rfl⟩ := enumD_get e0
  obtain ⟨w, ew, rw'⟩ := rr.at e1
  refine ⟨⟨ws, w, hl, ew⟩, ?_⟩
  rintro x H' ⟨T, x0, rfl, hT, rfl, e2⟩
  have := e2 ws hl
  rw [ew] at this
  cases this
  rw [Nat.zero_add]
  exact pair_item vs hT (.cons (.int _) (.cons rw' .nil))
theorem jok_enumT {xs : List D} (s1 : VS K H1 b1 G1 h1) {a : Addr} (r : SrcV K cap H1 b1 G1 (.ref a) (.tup xs)) : JOk K (RlC cap H1 b1 G1) (IteT K.f a) true .non (enumD 0 xs) := by
  intro H b G h i vs rl st
  obtain ⟨a', ws, ea, hl, rr⟩ := (r.later s1 rl).tup
  cases ea
  refine ⟨fun d0 e0 => ?_, fun hi => ⟨ws, hl.sq, by rw [rr.length]; rwa [enumD_len] at hi⟩⟩
  obtain ⟨y, e1, rfl⟩ := enumD_get e0
  obtain ⟨w, ew, rw'⟩ := rr.at e1
  refine ⟨⟨ws, w, hl.sq, ew⟩, ?_⟩
  rintro x H' ⟨T, x0, rfl, hT, rfl, e2⟩
  have := e2 ws hl.sq
  rw [ew] at this
  cases this
  rw [Nat.zero_add]
  exact pair_item vs hT (.cons (.int _) (.cons rw' .nil))
theorem jok_zipL {xs ys : List D} (s1 : VS K H1 b1 G1 h1) {a c : Addr} (r : SrcV K cap H1 b1 G1 (.ref a) (.lst xs)) (q : SrcV K cap H1 b1 G1 (.ref c) (.lst ys)) : JOk K (RlC cap H1 b1 G1) (Itz K.f a c) true .non (zipD xs ys) := by
  intro H b G h i vs rl st
  obtain ⟨a', ws, ea, hl, rr⟩ := (r.later s1 rl).lst
  cases ea
  obtain ⟨c', zs, ec, hl2, rr2⟩ := (q.later s1 rl).lst
  cases ec
  refine ⟨fun d0 e0 => ?_, fun hi => ⟨ws, zs, hl, hl2, by rw [rr.length, rr2.length]; rw [zipD_len] at hi; omega⟩⟩
  obtain ⟨y, y2, e1, e2, rfl⟩ := zipD_get e0
  obtain ⟨w, ew, rw'⟩ := rr.at e1
  obtain ⟨w2, ew2, rw2⟩ := rr2.at e2
  refine ⟨⟨ws, zs, w, w2, hl, hl2, ew, ew2⟩, ?_⟩
  rintro x H' ⟨T, x0, x2, rfl, hT, rfl, e3, e4⟩
  have q3 := e3 ws hl
  rw [ew] at q3
  cases q3
  have q4 := e4 zs hl2
  rw [ew2] at q4
  cases q4
  exact pair_item vs hT (.cons rw' (.cons rw2 .nil))
theorem jok_zipT {xs ys : List D} (s1 : VS K H1 b1 G1 h1) {a c : Addr} (r : SrcV K cap H1 b1 G1 (.ref a) (.tup xs)) (q : SrcV K cap H1 b1 G1 (.ref c) (.tup ys)) : JOk K (RlC cap H1 b1 G1) (RZ.ItzT K.f a c) true .non (zipD xs ys) := by
  intro H b G h i vs rl st
  obtain ⟨a', ws, ea, hl, rr⟩ := (r.later s1 rl).tup
  cases ea
  obtain ⟨c', zs, ec, hl2, rr2⟩ := (q.later s1 rl).tup
  cases ec
  refine ⟨fun d0 e0 => ?_, fun hi => ⟨ws, zs, hl.sq, hl2.sq, by rw [rr.length, rr2.length]; rw [zipD_len] at hi; omega⟩⟩
  obtain ⟨y, y2, e1, e2, rfl⟩ := zipD_get e0
  obtain ⟨w, ew, rw'⟩ := rr.at e1
  obtain ⟨w2, ew2, rw2⟩ := rr2.at e2
  refine ⟨⟨ws, zs, w, w2, hl.sq, hl2.sq, ew, ew2⟩, ?_⟩
  rintro x H' ⟨T, x0, x2, rfl, hT, rfl, e3, e4⟩
  have q3 := e3 ws hl.sq
  rw [ew] at q3
  cases q3
  have q4 := e4 zs hl2.sq
  rw [ew2] at q4
  cases q4
  exact pair_item vs hT (.cons rw' (.cons rw2 .nil))
end

/-! ### the rules, by those of the parts -/
section
variable {X : Cx} {Y : Sx} {cap : Bool}
theorem sem_seq {e : E} {σ : L2.St} {H : HpC} {Z : L2.It → HpC → Prop} (q : semI Y cap (.seq e) σ H Z) : iSeq Y.K.f (semE Y cap e) σ H Z := by
  obtain ⟨env, h, b, G, B, run⟩ := q
  refine ⟨env, h, b, G, B, ?_⟩
  have run : RunR Y.K Y.ca H b G ((evE Y.P Y.cx cap e env h).bind fun r => (R.of (seqOf r.2.2 r.1)).bind fun xs => .ok (r.1, xs, r.2.2)) (okI Y.K cap G false Z) (WE Y.W σ) := run
  refine finRunR.step run fun d own h' v H' b' G' e0 x vs rs run => ?_
  obtain ⟨vs, sv⟩ := rs.src vs
  cases es : seqOf h' d with
  | none => simp only [es] at run; exact False.elim run
  | some xs =>
    simp only [es] at run
    have q := run H' b' Ext.refl vs
    rcases seqOf_or es with rfl | el
    · obtain ⟨a, ws, rfl, ht, rr⟩ := sv.vw.tup
      exact ⟨a, ws, rfl, .inr ⟨ht.sq, q _ (jok_tup vs sv)⟩⟩
    · obtain ⟨a, ws, rfl, hl, rr⟩ := sv.vw.list vs el
      exact ⟨a, ws, rfl, .inl ⟨hl, q _ (jok_list vs el sv)⟩⟩
theorem sem_rng1 {e : E} {σ : L2.St} {H : HpC} {Z : L2.It → HpC → Prop} (q : semI Y cap (.rng1 e) σ H Z) : iRng1 (tCons (semE Y false e) tNil) σ H Z := by
  obtain ⟨env, h, b, G, B, run⟩ := q
  refine ⟨env, h, b, G, B, ?_⟩
  have run : RunR Y.K Y.ca H b G ((evE Y.P Y.cx false e env h).bind fun r => match r.1 with
    | .int n => if decide (-(2 ^ 62) ≤ n) && decide (n < 2 ^ 62) then .ok (.non, rng 0 n.toNat, r.2.2) else .bad
    | _ => .bad) (okI Y.K cap G false Z) (WE Y.W σ) := run
  refine finRunR.step run fun d own h' v H' b' G' e0 x vs rs run => ?_
  obtain ⟨vs, sv⟩ := rs.vw vs
  cases d with
  | int n =>
    cases sv.int
    simp only at run
    split at run
    · rename_i c
      rw [Bool.and_eq_true, decide_eq_true_iff, decide_eq_true_iff] at c
      exact ⟨n, rfl, c.1, c.2, run H' b' Ext.refl vs _ (jok_rng 0 _)⟩
    · exact False.elim run
  | _ => exact False.elim run
theorem sem_rng2 {e f : E} {σ : L2.St} {H : HpC} {Z : L2.It → HpC → Prop} (q : semI Y cap (.rng2 e f) σ H Z) : iRng2 (tCons (semE Y false e) (tCons (semE Y false f) tNil)) σ H Z := by
  obtain ⟨env, h, b, G, B, run⟩ := q
  refine ⟨env, h, b, G, B, ?_⟩
  have run : RunR Y.K Y.ca H b G ((evE Y.P Y.cx false e env h).bind fun r => (evE Y.P Y.cx false f env r.2.2).bind fun q => match r.1, q.1 with
    | .int i, .int j => if decide (-(2 ^ 62) ≤ i) && decide (i < 2 ^ 62) && decide (-(2 ^ 62) ≤ j) && decide (j < 2 ^ 62) then .ok (.non, rng i (j - i).toNat, q.2.2) else .bad
    | _, _ => .bad) (okI Y.K cap G false Z) (WE Y.W σ) := run
  refine finRunR.step run fun d own h' v H' b' G' e0 x vs rs run => ?_
  obtain ⟨vs, sv⟩ := rs.vw vs
  refine ⟨env, h', b', G, B.on x vs, ?_⟩
  refine finRunR.step run fun d2 own2 h2 v2 H2 b2 G2 e2 x2 vs2 rs2 run => ?_
  obtain ⟨vs2, sv2⟩ := rs2.vw vs2
  cases d with
  | int i =>
    cases sv.int
    cases d2 with
    | int j =>
      cases sv2.int
      simp only at run
      split at run
      · rename_i c
        rw [Bool.and_eq_true, Bool.and_eq_true, Bool.and_eq_true, decide_eq_true_iff, decide_eq_true_iff, decide_eq_true_iff, decide_eq_true_iff] at c
        exact ⟨i, j, rfl, ⟨c.1.1.1, c.1.1.2, c.1.2, c.2⟩, run H2 b2 Ext.refl vs2 _ (jok_rng i _)⟩
      · exact False.elim run
    | _ => exact False.elim run
  | _ => exact False.elim run
theorem sem_enum {e : E} {σ : L2.St} {H : HpC} {Z : L2.It → HpC → Prop} (q : semI Y cap (.enum e) σ H Z) : iEnumA Y.K.f (tCons (semE Y cap e) tNil) σ H Z := by
  obtain ⟨env, h, b, G, B, run⟩ := q
  refine ⟨env, h, b, G, B, ?_⟩
  have run : RunR Y.K Y.ca H b G ((evE Y.P Y.cx cap e env h).bind fun r => match r.1 with
    | .lst xs => .ok (.non, enumD 0 xs, r.2.2)
    | .tup xs => .ok (.non, enumD 0 xs, r.2.2)
    | _ => .bad) (okI Y.K cap G true Z) (WE Y.W σ) := run
  refine finRunR.step run fun d own h' v H' b' G' e0 x vs rs run => ?_
  obtain ⟨vs, sv⟩ := rs.src vs
  cases d with
  | lst xs =>
    obtain ⟨a, ws, rfl, hl, rr⟩ := sv.vw.lst
    exact ⟨a, ws, rfl, .inl ⟨hl, run H' b' Ext.refl vs _ (jok_enumL vs sv)⟩⟩
  | tup xs =>
    obtain ⟨a, ws, rfl, hl, rr⟩ := sv.vw.tup
    exact ⟨a, ws, rfl, .inr ⟨hl.sq, run H' b' Ext.refl vs _ (jok_enumT vs sv)⟩⟩
  | _ => exact False.elim run
theorem SrcV.ext {K : Kx} {H H' : HpC} {b b' : List Addr} {G : Addr → Prop} {h : Hp} {v : V} {d : D} (s : VS K H b G h) (x : Ext H b G H' b' G) (r : SrcV K cap H b G v d) : SrcV K cap H' b' G v d := by
  cases cap with
  | true => exact Rep.kept x.kept r
  | false => exact Vw.ext s x (fun _ z => z) r
theorem sem_zip {e f : E} {σ : L2.St} {H : HpC} {Z : L2.It → HpC → Prop} (q : semI Y cap (.zip e f) σ H Z) : RZ.iZipA Y.K.f (tCons (semE Y cap e) (tCons (semE Y cap f) tNil)) σ H Z := by
  obtain ⟨env, h, b, G, B, run⟩ := q
  refine ⟨env, h, b, G, B, ?_⟩
  have run : RunR Y.K Y.ca H b G ((evE Y.P Y.cx cap e env h).bind fun r => (evE Y.P Y.cx cap f env r.2.2).bind fun q => match r.1, q.1 with
    | .lst xs, .lst ys => .ok (.non, zipD xs ys, q.2.2)
    | .tup xs, .tup ys => .ok (.non, zipD xs ys, q.2.2)
    | _, _ => .bad) (okI Y.K cap G true Z) (WE Y.W σ) := run
  refine finRunR.step run fun d own h' v H' b' G' e0 x vs rs run => ?_
  obtain ⟨vs, sv⟩ := rs.src vs
  refine ⟨env, h', b', G, B.on x vs, ?_⟩
  refine finRunR.step run fun d2 own2 h2 v2 H2 b2 G2 e2 x2 vs2 rs2 run => ?_
  obtain ⟨vs2, sv2⟩ := rs2.src vs2
  have sv := sv.ext vs x2
  cases d with
  | lst xs =>
    cases d2 with
    | lst ys =>
      obtain ⟨a, ws, rfl, hl, rr⟩ := sv.vw.lst
      obtain ⟨c, zs, rfl, hl2, rr2⟩ := sv2.vw.lst
      exact ⟨a, c, ws, zs, rfl, .inl ⟨hl, hl2, run H2 b2 Ext.refl vs2 _ (jok_zipL vs2 sv sv2)⟩⟩
    | _ => exact False.elim run
  | tup xs =>
    cases d2 with
    | tup ys =>
      obtain ⟨a, ws, rfl, hl, rr⟩ := sv.vw.tup
      obtain ⟨c, zs, rfl, hl2, rr2⟩ := sv2.vw.tup
      exact ⟨a, c, ws, zs, rfl, .inr ⟨hl.sq, hl2.sq, run H2 b2 Ext.refl vs2 _ (jok_zipT vs2 sv sv2)⟩⟩
    | _ => exact False.elim run
  | _ => exact False.elim run
end
end Rw

set_option maxHeartbeats 2000000
/-! L2d: each form's reading from those of its parts. -/
namespace Rw
open PySem PySem.Spec PyProof.Rows L2

theorem asBool_bind {α : Type} (x : R α) (f : α → RV) : asBool (x.bind f) = x.bind fun a => asBool (f a) := by cases x <;> rfl
theorem asBool_back (r : RV) : asBool ((asBool r).bind fun q => .ok (.bl q.1, false, q.2)) = asBool r := by
  cases r with
  | ok p =>
    obtain ⟨d, o, h⟩ := p
    cases d <;> rfl
  | exn x h => rfl
  | bad => rfl
section
variable {K : Kx} {ca : Nat → Addr} {H : HpC} {b : List Addr} {G : Addr → Prop} {W' : L2.XK}
theorem FinP.stepB {β : Type} {F : R β → HpC → List Addr → Prop} (P : FinP K ca G W' F) {r : RV} {f : Bool × Hp → R β} {Q : Bool → HpC → Prop} (x : F ((asBool r).bind f) H b)
    (hq : ∀ k h' H' b', VS K H' b' G h' → Ext H b G H' b' G → F (f (k, h')) H' b' → Q k H') : Run K ca false H b G r (fun x H1 => ∃ c, x = .bl c ∧ Q c H1) W' := by
  cases r with
  | ok p =>
    obtain ⟨d, own, h'⟩ := p
    intro v H' b' G' e s r
    obtain ⟨s2, vw⟩ := r.vw s
    cases d with
    | bl k =>
      cases vw.bl
      exact ⟨k, rfl, hq k h' H' b' s2 (r.ext e) (P.ext x (r.ext e))⟩
    | _ => exact absurd x P.bad
  | exn y h' => exact P.exn x
  | bad => exact P.bad x
/-- the same for a test -/
theorem FinP.stepT {β : Type} {F : R β → HpC → List Addr → Prop} (P : FinP K ca G W' F) {r : RV} {f : Bool × Hp → R β} {Q : Bool → HpC → Prop} (x : F ((asBool r).bind f) H b)
    (hq : ∀ k h' H' b', VS K H' b' G h' → Ext H b G H' b' G → F (f (k, h')) H' b' → Q k H') : RunR K ca H b G (asBool r) (okB K G Q) W' :=
  P.stepR x fun a H' b' _ e y s => hq a.1 a.2 H' b' s e y
theorem run_back {cap : Bool} {r : RV} {Q : VK} (x : Run K ca cap H b G ((asBool r).bind fun q => .ok (.bl q.1, false, q.2)) Q W') : Run K ca false H b G r Q W' := by
  cases r with
  | ok p =>
    obtain ⟨d, own, h'⟩ := p
    intro v H' b' G' e s r
    obtain ⟨s2, vw⟩ := r.vw s
    cases d with
    | bl k =>
      cases vw.bl
      exact x (.bl k) H' b' G (r.ext e) s2 (Res.plain (.bl k))
    | _ => exact False.elim x
  | exn y h' => exact x
  | bad => exact x
/-- a value that stands already, as it is wanted -/
theorem Run.rep {cap : Bool} {d : D} {h : Hp} {v : V} {Q : VK} (x : Run K ca cap H b G (.ok (d, false, h)) Q W') {H' : HpC} {b' : List Addr} (e : Ext H b G H' b' G) (s : VS K H' b' G h) (r : Rep K H' (wof b' G) b' v d) : Q v H' := x v H' b' G e s (Res.plain r)
end
section
variable {Y : Sx} {cap : Bool} {σ : L2.St} {H : HpC} {Q : VK}
theorem semB_E {e : E} {Q : Bool → HpC → Prop} (q : semB Y e σ H Q) : semE Y false e σ H fun x H' => ∃ k, x = .bl k ∧ Q k H' := by
  obtain ⟨env, h, b, G, B, run⟩ := q
  refine ⟨env, h, b, G, B, ?_⟩
  have run : RunR Y.K Y.ca H b G ((asBool (evE Y.P Y.cx false e env h)).bind fun q => .ok q) (okB Y.K G Q) (WE Y.W σ) := by
    have e2 : ∀ r : R (Bool × Hp), r.bind (fun q => .ok q) = r := fun r => by cases r <;> rfl
    rw [e2]; exact run
  exact finRunR.stepB run fun k h' H' b' vs x run => run H' b' Ext.refl vs
theorem sem_var {i : Nat} (q : semE Y cap (.var i) σ H Q) : tVar i σ H Q := by
  obtain ⟨env, h, b, G, B, run⟩ := q
  have run : Run Y.K Y.ca cap H b G (match env[i]? with
    | some (some ⟨d, own⟩) => if cap && own then .bad else .ok (d, false, h)
    | _ => .bad) Q (WE Y.W σ) := run
  split at run
  · rename_i d own e
    split at run
    · exact False.elim run
    · rename_i c
      obtain ⟨v, e1, so⟩ := B.sl i _ e
      refine ⟨v, e1, ?_⟩
      unfold SlotOk at so
      split at so
      · rename_i ho
        obtain ⟨a, rfl, hG, t⟩ := so
        cases cap with
        | false => exact run.look B.vs (.top hG t)
        | true => exact absurd (by simpa using ho) (by simpa using c)
      · exact run.val B.vs so
  · exact False.elim run
theorem sem_con {d : D} {v : V} (r : ∀ {K : Kx} {H : HpC} {W : Addr → Prop} {b : List Addr}, Rep K H W b v d) (q : semE Y cap (.con d) σ H Q) : tC v σ H Q := by
  obtain ⟨env, h, b, G, B, run⟩ := q
  have run : Run Y.K Y.ca cap H b G (.ok (d, false, h)) Q (WE Y.W σ) := run
  exact run.val B.vs r
theorem sem_glo {i : Nat} {v : V} (r : ∀ d, Y.P.gl i = some d → ∀ {H : HpC} {W : Addr → Prop} {b : List Addr}, Rep Y.K H W b v d) (q : semE Y cap (.glo i) σ H Q) : tC v σ H Q := by
  obtain ⟨env, h, b, G, B, run⟩ := q
  have run : Run Y.K Y.ca cap H b G (match Y.P.gl i with
    | some d => .ok (d, false, h)
    | none => .bad) Q (WE Y.W σ) := run
  split at run
  · rename_i d e
    exact run.val B.vs (r d e)
  · exact False.elim run
/-- a tuple display, its object told -/
def tTupF (t : TA) : TE := fun σ H Q => t σ H fun xs H1 => xs.length ≤ sizeLine ∧ ∀ p o, H1 p = none → o.dict = none → Q (.ref p) (upd H1 p (.frz o (.tup xs)))
theorem pe_tupF {X : Cx} {es : List Expr} {t : TA} {pos : Pos} {x1} (h : PA X es t) : PE X (.Tuple es x1 pos) (tTupF t) := by
  refine ⟨fun pins s σ H Q I hq => ?_⟩
  refine wpAny_Tuple_spliced (thn (h.run pos pins s σ H _ I hq) fun us s1 ⟨xs, H1, I1, r, z, q⟩ => ⟨by rw [← r.length]; exact z, ?_⟩)
  obtain ⟨o, ho, hf, J⟩ := laidT (t' := s1.toks) I1 r z
  exact ⟨.ref s1.heap.objs.size, _, J, rfl, q _ o hf ho⟩
theorem ArgsOk.reps {K : Kx} {G : Addr → Prop} {b : List Addr} {vs : List V} {ds : List D} (x : ArgsOk K true H b G vs ds) : Reps K H (wof b G) b vs ds := x
theorem sem_tup {es : Es} (q : semE Y cap (.tup es) σ H Q) : tTupF (semEs Y true es) σ H Q := by
  obtain ⟨env, h, b, G, B, run⟩ := q
  refine ⟨env, h, b, G, B, ?_⟩
  have run : Run Y.K Y.ca cap H b G ((evEs Y.P Y.cx true es env h).bind fun r => if r.1.length ≤ maxLen then .ok (.tup r.1, false, r.2) else .bad) Q (WE Y.W σ) := run
  refine finRun.stepR run fun a H' b' _ x run s vs ao => ?_
  have r := ao.reps
  split at run
  · rename_i hz
    exact ⟨by rw [r.length]; exact le_line hz, fun p o hp ho => Run.newT s run r p o hp ho⟩
  · exact False.elim run
theorem sem_lst {es : Es} (q : semE Y cap (.lst es) σ H Q) : tLst (semEs Y true es) σ H Q := by
  obtain ⟨env, h, b, G, B, run⟩ := q
  refine ⟨env, h, b, G, B, ?_⟩
  have run : Run Y.K Y.ca cap H b G ((evEs Y.P Y.cx true es env h).bind fun r => if r.1.length ≤ maxLen then .ok (.lst r.1, true, r.2) else .bad) Q (WE Y.W σ) := run
  refine finRun.stepR run fun a H' b' _ x run s vs ao => ?_
  have r := ao.reps
  split at run
  · rename_i hz
    exact ⟨by rw [r.length]; exact le_line hz, Run.newL s run r⟩
  · exact False.elim run
theorem sem_dnew (q : semE Y cap (.dsp .nil .nil) σ H Q) : tDNewK σ H Q := by
  obtain ⟨env, h, b, G, B, run⟩ := q
  have run : Run Y.K Y.ca cap H b G (.ok (.dct [] [], true, h)) Q (WE Y.W σ) := run
  exact Run.newK (kvs := []) B.vs run rfl .nil
theorem sem_disp {k : Str} {d : D} {v : V} (r : ∀ {K : Kx} {H : HpC} {W : Addr → Prop} {b : List Addr}, Rep K H W b v d) (q : semE Y cap (.dsp (.cons (.con (.str k)) .nil) (.cons (.con d) .nil)) σ H Q) : tDisp [(tC (.str k), tC v)] σ H Q := by
  obtain ⟨env, h, b, G, B, run⟩ := q
  have run : Run Y.K Y.ca cap H b G (.ok (.dct [.str k] [d], true, h)) Q (WE Y.W σ) := run
  intro p hp
  refine ⟨upd_same, [(.inr k, v)], rfl, (show 1 ≤ 15 by decide), ?_⟩
  have e : mergeK [] [(.inr k, v)] = [((.inr k : Key), v)] := rfl
  rw [e, upd_upd]
  exact Run.newK (kvs := [(.inr k, v)]) B.vs run rfl (.cons r .nil) p hp
theorem sem_neg {a : E} (q : semE Y cap (.neg a) σ H Q) : tUn (rU fun i => .int (-i)) (semE Y false a) σ H Q := by
  obtain ⟨env, h, b, G, B, run⟩ := q
  refine ⟨env, h, b, G, B, ?_⟩
  have run : Run Y.K Y.ca cap H b G ((evE Y.P Y.cx false a env h).bind fun r => match r.1 with
    | .int i => .ok (.int (-i), false, r.2.2)
    | _ => .bad) Q (WE Y.W σ) := run
  refine finRun.step run fun d own h' v H' b' G' e0 x vs rs run => ?_
  obtain ⟨vs, vw⟩ := rs.vw vs
  cases d with
  | int i => cases vw.int; exact ⟨i, rfl, run.val vs (.int _)⟩
  | _ => exact False.elim run
theorem sem_not {a : E} (q : semE Y cap (.not_ a) σ H Q) : tNotV (semE Y false a) σ H Q := by
  obtain ⟨env, h, b, G, B, run⟩ := q
  refine ⟨env, h, b, G, B, ?_⟩
  have run : Run Y.K Y.ca cap H b G ((asBool (evE Y.P Y.cx false a env h)).bind fun r => .ok (.bl (!r.1), false, r.2)) Q (WE Y.W σ) := run
  exact finRun.stepB run fun k h' H' b' vs x run => run.val vs (.bl _)
theorem semB_not {a : E} {Q : Bool → HpC → Prop} (q : semB Y (.not_ a) σ H Q) : tNot (semB Y a) σ H Q := by
  obtain ⟨env, h, b, G, B, run⟩ := q
  refine ⟨env, h, b, G, B, ?_⟩
  have run : RunR Y.K Y.ca H b G (asBool ((asBool (evE Y.P Y.cx false a env h)).bind fun r => .ok (.bl (!r.1), false, r.2))) (okB Y.K G Q) (WE Y.W σ) := run
  rw [asBool_bind] at run
  exact finRunR.stepT run fun k h' H' b' vs x run => run H' b' Ext.refl vs
theorem sem_and {a c : E} (q : semE Y cap (.and_ a c) σ H Q) : tAndV (semE Y false a) (semE Y false c) σ H Q := by
  obtain ⟨env, h, b, G, B, run⟩ := q
  refine ⟨env, h, b, G, B, ?_⟩
  have run : Run Y.K Y.ca cap H b G ((asBool (evE Y.P Y.cx false a env h)).bind fun r => if r.1 then (asBool (evE Y.P Y.cx false c env r.2)).bind fun q => .ok (.bl q.1, false, q.2) else .ok (.bl false, false, r.2)) Q (WE Y.W σ) := run
  refine finRun.stepB run fun k h' H' b' vs x run => ?_
  cases k with
  | true => exact ⟨env, h', b', G, B.on x vs, run_back run⟩
  | false => exact Run.val vs run (.bl _)
theorem sem_or {a c : E} (q : semE Y cap (.or_ a c) σ H Q) : tOrV (semE Y false a) (semE Y false c) σ H Q := by
  obtain ⟨env, h, b, G, B, run⟩ := q
  refine ⟨env, h, b, G, B, ?_⟩
  have run : Run Y.K Y.ca cap H b G ((asBool (evE Y.P Y.cx false a env h)).bind fun r => if r.1 then .ok (.bl true, false, r.2) else (asBool (evE Y.P Y.cx false c env r.2)).bind fun q => .ok (.bl q.1, false, q.2)) Q (WE Y.W σ) := run
  refine finRun.stepB run fun k h' H' b' vs x run => ?_
  cases k with
  | true => exact Run.val vs run (.bl _)
  | false => exact ⟨env, h', b', G, B.on x vs, run_back run⟩
theorem semB_and {a c : E} {Q : Bool → HpC → Prop} (q : semB Y (.and_ a c) σ H Q) : tAnd (semB Y a) (semB Y c) σ H Q := by
  obtain ⟨env, h, b, G, B, run⟩ := q
  refine ⟨env, h, b, G, B, ?_⟩
  have run : RunR Y.K Y.ca H b G (asBool ((asBool (evE Y.P Y.cx false a env h)).bind fun r => if r.1 then (asBool (evE Y.P Y.cx false c env r.2)).bind fun q => .ok (.bl q.1, false, q.2) else .ok (.bl false, false, r.2))) (okB Y.K G Q) (WE Y.W σ) := run
  rw [asBool_bind] at run
  refine finRunR.stepT run fun k h' H' b' vs x run => ?_
  cases k with
  | true =>
    refine ⟨env, h', b', G, B.on x vs, ?_⟩
    have run : RunR Y.K Y.ca H' b' G (asBool ((asBool (evE Y.P Y.cx false c env h')).bind fun q => .ok (.bl q.1, false, q.2))) (okB Y.K G Q) (WE Y.W σ) := run
    rwa [asBool_back] at run
  | false => exact run H' b' Ext.refl vs
theorem semB_or {a c : E} {Q : Bool → HpC → Prop} (q : semB Y (.or_ a c) σ H Q) : tOr (semB Y a) (semB Y c) σ H Q := by
  obtain ⟨env, h, b, G, B, run⟩ := q
  refine ⟨env, h, b, G, B, ?_⟩
  have run : RunR Y.K Y.ca H b G (asBool ((asBool (evE Y.P Y.cx false a env h)).bind fun r => if r.1 then .ok (.bl true, false, r.2) else (asBool (evE Y.P Y.cx false c env r.2)).bind fun q => .ok (.bl q.1, false, q.2))) (okB Y.K G Q) (WE Y.W σ) := run
  rw [asBool_bind] at run
  refine finRunR.stepT run fun k h' H' b' vs x run => ?_
  cases k with
  | true => exact run H' b' Ext.refl vs
  | false =>
    refine ⟨env, h', b', G, B.on x vs, ?_⟩
    have run : RunR Y.K Y.ca H' b' G (asBool ((asBool (evE Y.P Y.cx false c env h')).bind fun q => .ok (.bl q.1, false, q.2))) (okB Y.K G Q) (WE Y.W σ) := run
    rwa [asBool_back] at run
theorem sem_ife {c a a2 : E} (q : semE Y cap (.ife c a a2) σ H Q) : tIf (semB Y c) (semE Y cap a) (semE Y cap a2) σ H Q := by
  obtain ⟨env, h, b, G, B, run⟩ := q
  refine ⟨env, h, b, G, B, ?_⟩
  have run : Run Y.K Y.ca cap H b G ((asBool (evE Y.P Y.cx false c env h)).bind fun r => if r.1 then evE Y.P Y.cx cap a env r.2 else evE Y.P Y.cx cap a2 env r.2) Q (WE Y.W σ) := run
  refine finRun.stepT run fun k h' H' b' vs x run => ?_
  cases k with
  | true => exact ⟨env, h', b', G, B.on x vs, run⟩
  | false => exact ⟨env, h', b', G, B.on x vs, run⟩
theorem sem_bin {o : Op} {a c : E} (q : semE Y cap (.bin o a c) σ H Q) : tOp (r2 Y.K Y.ca (evOp o)) (semE Y false a) (semE Y false c) σ H Q := by
  obtain ⟨env, h, b, G, B, run⟩ := q
  refine ⟨env, h, b, G, B, ?_⟩
  have run : Run Y.K Y.ca cap H b G ((evE Y.P Y.cx false a env h).bind fun r => (evE Y.P Y.cx false c env r.2.2).bind fun q => evOp o r.1 q.1 q.2.2) Q (WE Y.W σ) := run
  refine finRun.step run fun d own h' v H' b' G' e0 x vs rs run => ?_
  obtain ⟨vs, vw⟩ := rs.vw vs
  refine ⟨env, h', b', G, B.on x vs, finRun.step run fun d2 own2 h2 v2 H2 b2 G2 e2 x2 vs2 rs2 run => ?_⟩
  obtain ⟨vs2, vw2⟩ := rs2.vw vs2
  exact ⟨d, d2, h2, b2, G, _, cap, vs2, vw.ext vs x2 (fun _ z => z), vw2, run⟩
theorem sem_cmp {o : Cm} {a c : E} (q : semE Y cap (.cmp o a c) σ H Q) : tOp (r2 Y.K Y.ca (ans (evCm o))) (semE Y false a) (semE Y false c) σ H Q := by
  obtain ⟨env, h, b, G, B, run⟩ := q
  refine ⟨env, h, b, G, B, ?_⟩
  have run : Run Y.K Y.ca cap H b G ((evE Y.P Y.cx false a env h).bind fun r => (evE Y.P Y.cx false c env r.2.2).bind fun q => ans (evCm o) r.1 q.1 q.2.2) Q (WE Y.W σ) := run
  refine finRun.step run fun d own h' v H' b' G' e0 x vs rs run => ?_
  obtain ⟨vs, vw⟩ := rs.vw vs
  refine ⟨env, h', b', G, B.on x vs, finRun.step run fun d2 own2 h2 v2 H2 b2 G2 e2 x2 vs2 rs2 run => ?_⟩
  obtain ⟨vs2, vw2⟩ := rs2.vw vs2
  exact ⟨d, d2, h2, b2, G, _, cap, vs2, vw.ext vs x2 (fun _ z => z), vw2, run⟩
/-- a link of a chain of comparisons -/
theorem link {β : Type} {o : Cm} {K : Kx} {ca : Nat → Addr} {W' : L2.XK} {G : Addr → Prop} {F : R β → HpC → List Addr → Prop} (P : FinP K ca G W' F) {b : List Addr} {h : Hp} {v w : V} {d e : D} {f : Bool → R β} {Q : Bool → HpC → Prop} (s : VS K H b G h) (vv : Vw K H b G v d) (vw : Vw K H b G w e)
    (run : F ((R.of (evCm o d e h)).bind f) H b) (q : ∀ k H' b', VS K H' b' G h → Ext H b G H' b' G → F (f k) H' b' → Q k H') : r2 K ca (ans (evCm o)) v w H fun z H' => ∃ k, z = .bl k ∧ Q k H' := by
  cases e0 : evCm o d e h with
  | none => rw [e0] at run; exact absurd run P.bad
  | some k =>
    rw [e0] at run
    refine ⟨d, e, h, b, G, W', false, s, vv, vw, ?_⟩
    have e1 : ans (evCm o) d e h = .ok (.bl k, false, h) := by unfold ans; rw [e0]; rfl
    rw [e1]
    intro z H' b' G' x s2 r
    obtain ⟨s3, vz⟩ := r.vw s2
    cases vz.bl
    exact ⟨k, rfl, q k H' b' s3 (r.ext x) (P.ext run (r.ext x))⟩
theorem sem_chain {o p : Cm} {a c c2 : E} (q : semE Y cap (.chain o p a c c2) σ H Q) : tChain (r2 Y.K Y.ca (ans (evCm o))) (r2 Y.K Y.ca (ans (evCm p))) (semE Y false a) (semE Y false c) (semE Y false c2) σ H Q := by
  obtain ⟨env, h, b, G, B, run⟩ := q
  refine ⟨env, h, b, G, B, ?_⟩
  have run : Run Y.K Y.ca cap H b G ((evE Y.P Y.cx false a env h).bind fun r => (evE Y.P Y.cx false c env r.2.2).bind fun q => (R.of (evCm o r.1 q.1 q.2.2)).bind fun k =>
      if k then (evE Y.P Y.cx false c2 env q.2.2).bind fun z => (R.of (evCm p q.1 z.1 z.2.2)).bind fun k => .ok (.bl k, false, z.2.2) else .ok (.bl false, false, q.2.2)) Q (WE Y.W σ) := run
  refine finRun.step run fun d own h' v H' b' G' e0 x vs rs run => ?_
  obtain ⟨vs, vw⟩ := rs.vw vs
  refine ⟨env, h', b', G, B.on x vs, finRun.step run fun d2 own2 h2 v2 H2 b2 G2 e2 x2 vs2 rs2 run => ?_⟩
  obtain ⟨vs2, vw2⟩ := rs2.vw vs2
  refine link finRun vs2 (vw.ext vs x2 (fun _ z => z)) vw2 run fun k H3 b3 vs3 x3 run => ?_
  cases k with
  | true =>
    refine ⟨env, h2, b3, G, (B.on x vs).on (x2.trans x3) vs3, finRun.step run fun d3 own3 h3 v3 H4 b4 G4 e4 x4 vs4 rs4 run => ?_⟩
    obtain ⟨vs4, vw4⟩ := rs4.vw vs4
    obtain ⟨k2, ek2, run⟩ : ∃ k2, evCm p d2 d3 h3 = some k2 ∧ Run Y.K Y.ca cap H4 b4 G (.ok (.bl k2, false, h3)) Q (WE Y.W σ) := by
      cases e5 : evCm p d2 d3 h3 with
      | none => simp only [e5] at run; exact False.elim run
      | some k2 => simp only [e5] at run; exact ⟨k2, rfl, run⟩
    refine ⟨d2, d3, h3, b4, G, WE Y.W σ, cap, vs4, vw2.ext vs2 (x3.trans x4) (fun _ z => z), vw4, ?_⟩
    have e1 : ans (evCm p) d2 d3 h3 = .ok (.bl k2, false, h3) := by unfold ans; rw [ek2]; rfl
    rw [e1]
    exact run
  | false => exact Run.val vs3 run (.bl _)
/-- a op1 b op2 c op3 d -/
def tChain3 (r r' r'' : R2) (ta tb tc td : TE) : TE := fun σ H Q => ta σ H fun x H1 => tb σ H1 fun y H2 => r x y H2 fun z H3 => ∃ k, z = .bl k ∧
  (if k = true then tc σ H3 fun w' H4 => r' y w' H4 fun z2 H5 => ∃ k2, z2 = .bl k2 ∧ (if k2 = true then td σ H5 fun u' H6 => r'' w' u' H6 Q else Q (.bl false) H5) else Q (.bl false) H3)
theorem pe_chain3 {X : Cx} {a b c d : Expr} {ta tb tc td : TE} {pos : Pos} {op op' op'' : CmpOp} {r r' r'' : R2} (ho : OpR X (compareOp op) r) (ho' : OpR X (compareOp op') r') (ho'' : OpR X (compareOp op'') r'') (ha : PE X a ta) (hb : PE X b tb) (hc : PE X c tc) (hd : PE X d td)
    (hm : lastMarks [op, op', op''] [b, c, d] = false) : PE X (.Compare a [op, op', op''] [b, c, d] pos) (tChain3 r r' r'' ta tb tc td) := by
  refine ⟨fun pins s σ H Q I h => ?_⟩
  refine Compare_chain (thn (ha.run pins s σ H _ I h) fun v s1 ⟨x, H1, I1, r1, q1⟩ => chain_link (thn (hb.run pins s1 σ H1 _ I1 q1) fun u s2 ⟨y, H2, I2, r2, q2⟩ =>
    thn (ho pins s2 σ H2 x y v u _ I2 r1 r2 q2) fun d s3 ⟨z, H3, I3, r3, k, e, q3⟩ => ?_)) hm
  subst e
  cases r3
  refine wpAny_truthy_bool ?_
  cases k with
  | false => exact ite_ff ⟨.bl false, H3, I3, rfl, q3⟩
  | true =>
    refine ite_tt (chain_link (thn (hc.run pins s3 σ H3 _ I3 q3) fun w' s4 ⟨z', H4, I4, r4, q4⟩ => thn (ho' pins s4 σ H4 y z' u w' _ I4 r2 r4 q4) fun d2 s5 ⟨z2, H5, I5, r5, k2, e2, q5⟩ => ?_))
    subst e2
    cases r5
    refine wpAny_truthy_bool ?_
    cases k2 with
    | false => exact ite_ff ⟨.bl false, H5, I5, rfl, q5⟩
    | true => exact ite_tt (chain_last (thn (hd.run pins s5 σ H5 _ I5 q5) fun u' s6 ⟨z6, H6, I6, r6, q6⟩ => ho'' pins s6 σ H6 z' z6 w' u' Q I6 r4 r6 q6))
theorem sem_chain3 {o p t : Cm} {a c c2 c3 : E} (q : semE Y cap (.chain3 o p t a c c2 c3) σ H Q) : tChain3 (r2 Y.K Y.ca (ans (evCm o))) (r2 Y.K Y.ca (ans (evCm p))) (r2 Y.K Y.ca (ans (evCm t))) (semE Y false a) (semE Y false c) (semE Y false c2) (semE Y false c3) σ H Q := by
  obtain ⟨env, h, b, G, B, run⟩ := q
  refine ⟨env, h, b, G, B, ?_⟩
  have run : Run Y.K Y.ca cap H b G ((evE Y.P Y.cx false a env h).bind fun r => (evE Y.P Y.cx false c env r.2.2).bind fun q => (R.of (evCm o r.1 q.1 q.2.2)).bind fun k =>
      if k then (evE Y.P Y.cx false c2 env q.2.2).bind fun z => (R.of (evCm p q.1 z.1 z.2.2)).bind fun k => if k then (evE Y.P Y.cx false c3 env z.2.2).bind fun y => (R.of (evCm t z.1 y.1 y.2.2)).bind fun k => .ok (.bl k, false, y.2.2)
        else .ok (.bl false, false, z.2.2) else .ok (.bl false, false, q.2.2)) Q (WE Y.W σ) := run
  refine finRun.step run fun d own h' v H' b' G' e0 x vs rs run => ?_
  obtain ⟨vs, vw⟩ := rs.vw vs
  refine ⟨env, h', b', G, B.on x vs, finRun.step run fun d2 own2 h2 v2 H2 b2 G2 e2 x2 vs2 rs2 run => ?_⟩
  obtain ⟨vs2, vw2⟩ := rs2.vw vs2
  refine link finRun vs2 (vw.ext vs x2 (fun _ z => z)) vw2 run fun k H3 b3 vs3 x3 run => ?_
  cases k with
  | true =>
    refine ⟨env, h2, b3, G, (B.on x vs).on (x2.trans x3) vs3, finRun.step run fun d3 own3 h3 v3 H4 b4 G4 e4 x4 vs4 rs4 run => ?_⟩
    obtain ⟨vs4, vw4⟩ := rs4.vw vs4
    refine link finRun vs4 (vw2.ext vs2 (x3.trans x4) (fun _ z => z)) vw4 run fun k2 H5 b5 vs5 x5 run => ?_
    cases k2 with
    | true =>
      refine ⟨env, h3, b5, G, ((B.on x vs).on (x2.trans x3) vs3).on (x4.trans x5) vs5, finRun.step run fun d6 own6 h6 v6 H6 b6 G6 e6 x6 vs6 rs6 run => ?_⟩
      obtain ⟨vs6, vw6⟩ := rs6.vw vs6
      obtain ⟨k3, ek3, run⟩ : ∃ k3, evCm t d3 d6 h6 = some k3 ∧ Run Y.K Y.ca cap H6 b6 G (.ok (.bl k3, false, h6)) Q (WE Y.W σ) := by
        cases e5 : evCm t d3 d6 h6 with
        | none => simp only [e5] at run; exact False.elim run
        | some k3 => simp only [e5] at run; exact ⟨k3, rfl, run⟩
      refine ⟨d3, d6, h6, b6, G, WE Y.W σ, cap, vs6, vw4.ext vs4 (x5.trans x6) (fun _ z => z), vw6, ?_⟩
      have e1 : ans (evCm t) d3 d6 h6 = .ok (.bl k3, false, h6) := by unfold ans; rw [ek3]; rfl
      rw [e1]
      exact run
    | false => exact Run.val vs5 run (.bl _)
  | false => exact Run.val vs3 run (.bl _)
end
/-! ### lists of parts -/
section
variable {Y : Sx} {cap : Bool} {σ : L2.St} {H : HpC}
theorem sem_nil {Q : List V → HpC → Prop} (q : semEs Y cap .nil σ H Q) : tNil σ H Q := by
  obtain ⟨env, h, b, G, B, run⟩ := q
  have run : RunR Y.K Y.ca H b G (.ok ([], h)) (okL Y.K cap G Q) (WE Y.W σ) := run
  refine run H b Ext.refl B.vs [] ?_
  unfold ArgsOk
  split
  · exact .nil
  · exact .nil
theorem ArgsOk.cons {K : Kx} {b b' : List Addr} {G : Addr → Prop} {h : Hp} {H' : HpC} {v : V} {vs : List V} {d : D} {ds : List D} (s : VS K H b G h) (x : Ext H b G H' b' G) (r : SrcV K cap H b G v d) (q : ArgsOk K cap H' b' G vs ds) : ArgsOk K cap H' b' G (v :: vs) (d :: ds) := by
  have r := r.ext s x
  cases cap with
  | true => exact Reps.cons r q
  | false => exact Vws.cons r q.vws
theorem sem_cons {e : E} {r : Es} {Q : List V → HpC → Prop} (q : semEs Y cap (.cons e r) σ H Q) : tCons (semE Y cap e) (semEs Y cap r) σ H Q := by
  obtain ⟨env, h, b, G, B, run⟩ := q
  refine ⟨env, h, b, G, B, ?_⟩
  have run : RunR Y.K Y.ca H b G ((evE Y.P Y.cx cap e env h).bind fun a => (evEs Y.P Y.cx cap r env a.2.2).bind fun q => .ok (a.1 :: q.1, q.2)) (okL Y.K cap G Q) (WE Y.W σ) := run
  refine finRunR.step run fun d own h' v H' b' G' e0 x vs rs run => ?_
  obtain ⟨vs, sv⟩ := rs.src vs
  refine ⟨env, h', b', G, B.on x vs, finRunR.stepR run fun a H2 b2 e2 x2 run s2 ws ao => ?_⟩
  exact run H2 b2 Ext.refl s2 _ (ArgsOk.cons vs x2 sv ao)
theorem sem_star {e : E} {r : Es} {Q : List V → HpC → Prop} (q : semEs Y cap (.star e r) σ H Q) : StX.tStar Y.K.f (semE Y false e) (semEs Y cap r) σ H Q := by
  obtain ⟨env, h, b, G, B, run⟩ := q
  refine ⟨env, h, b, G, B, ?_⟩
  have run : RunR Y.K Y.ca H b G ((evE Y.P Y.cx false e env h).bind fun a => (R.of (seqOf a.2.2 a.1)).bind fun xs => (evEs Y.P Y.cx cap r env a.2.2).bind fun q => .ok (xs ++ q.1, q.2)) (okL Y.K cap G Q) (WE Y.W σ) := run
  refine finRunR.step run fun d own h' v H' b' G' e0 x vs rs run => ?_
  obtain ⟨vs, vw⟩ := rs.vw vs
  cases es : seqOf h' d with
  | none => simp only [es] at run; exact False.elim run
  | some xs =>
    simp only [es] at run
    obtain ⟨a, ws, rfl, hl, rr⟩ := vw.seq vs es
    refine ⟨a, ws, rfl, hl.symm, env, h', b', G, B.on x vs, finRunR.stepR run fun p H2 b2 e2 x2 run s2 zs ao => ?_⟩
    refine run H2 b2 Ext.refl s2 _ ?_
    have rr := rr.kept x2.kept
    cases cap with
    | true => exact Reps.app rr ao.reps
    | false =>
      have go : ∀ {ws : List V} {xs : List D}, Reps Y.K H2 (wof b2 G) b2 ws xs → Vws Y.K H2 b2 G (ws ++ zs) (xs ++ p.1) := by
        intro ws xs rr
        induction ws generalizing xs with
        | nil => cases rr; exact ao.vws
        | cons w ws ih =>
          cases rr with
          | cons r t => exact .cons (.rep r) (ih t)
      exact go rr
theorem sem_one {e : E} {o : Oe} {Q : Option Int → HpC → Prop} (ho : o = .yes e) (q : semO Y o σ H Q) : tPart (semE Y false e) σ H Q := by
  subst ho
  obtain ⟨env, h, b, G, B, run⟩ := q
  refine ⟨env, h, b, G, B, ?_⟩
  have run : RunR Y.K Y.ca H b G ((evE Y.P Y.cx false e env h).bind fun r => match r.1 with
    | .int i => .ok (some i, r.2.2)
    | _ => .bad) (okO Y.K G Q) (WE Y.W σ) := run
  refine finRunR.step run fun d own h' v H' b' G' e0 x vs rs run => ?_
  obtain ⟨vs, vw⟩ := rs.vw vs
  cases d with
  | int i => cases vw.int; exact ⟨i, rfl, run H' b' Ext.refl vs⟩
  | _ => exact False.elim run
theorem sem_none {Q : Option Int → HpC → Prop} (q : semO Y .no σ H Q) : tNoPart σ H Q := by
  obtain ⟨env, h, b, G, B, run⟩ := q
  have run : RunR Y.K Y.ca H b G (.ok (none, h)) (okO Y.K G Q) (WE Y.W σ) := run
  exact run H b Ext.refl B.vs
end
section
variable {Y : Sx} {cap : Bool} {σ : L2.St} {H : HpC} {Q : VK}
theorem sem_idx {a i : E} (q : semE Y cap (.idx a i) σ H Q) : tOp (r2 Y.K Y.ca ixRun) (semE Y false a) (semE Y false i) σ H Q := by
  obtain ⟨env, h, b, G, B, run⟩ := q
  refine ⟨env, h, b, G, B, ?_⟩
  have run : Run Y.K Y.ca cap H b G ((evE Y.P Y.cx false a env h).bind fun r => (evE Y.P Y.cx false i env r.2.2).bind fun q => ixRun r.1 q.1 q.2.2) Q (WE Y.W σ) := run
  refine finRun.step run fun d own h' v H' b' G' e0 x vs rs run => ?_
  obtain ⟨vs, vw⟩ := rs.vw vs
  refine ⟨env, h', b', G, B.on x vs, finRun.step run fun d2 own2 h2 v2 H2 b2 G2 e2 x2 vs2 rs2 run => ?_⟩
  obtain ⟨vs2, vw2⟩ := rs2.vw vs2
  exact ⟨d, d2, h2, b2, G, _, cap, vs2, vw.ext vs x2 (fun _ z => z), vw2, run⟩
theorem sem_cut {a : E} {lo hi : Oe} (q : semE Y cap (.cutE a lo hi) σ H Q) : tSl (rCut Y.K Y.ca) (semE Y false a) (semO Y lo) (semO Y hi) σ H Q := by
  obtain ⟨env, h, b, G, B, run⟩ := q
  refine ⟨env, h, b, G, B, ?_⟩
  have run : Run Y.K Y.ca cap H b G ((evE Y.P Y.cx false a env h).bind fun r => (evO Y.P Y.cx lo env r.2.2).bind fun l => (evO Y.P Y.cx hi env l.2).bind fun u => evCut r.1 l.1 u.1 u.2) Q (WE Y.W σ) := run
  refine finRun.step run fun d own h' v H' b' G' e0 x vs rs run => ?_
  obtain ⟨vs, vw⟩ := rs.vw vs
  refine ⟨env, h', b', G, B.on x vs, finRun.stepR run fun l H2 b2 e2 x2 run s2 => ?_⟩
  refine ⟨env, l.2, b2, G, (B.on x vs).on x2 s2, finRun.stepR run fun u H3 b3 e3 x3 run s3 => ?_⟩
  exact ⟨d, u.2, b3, G, _, cap, s3, vw.ext vs (x2.trans x3) (fun _ z => z), run⟩
theorem sem_rev {a : E} (q : semE Y cap (.rev a) σ H Q) : tRev Y.K Y.ca (semE Y false a) σ H Q := by
  obtain ⟨env, h, b, G, B, run⟩ := q
  refine ⟨env, h, b, G, B, ?_⟩
  have run : Run Y.K Y.ca cap H b G ((evE Y.P Y.cx false a env h).bind revRun) Q (WE Y.W σ) := run
  refine finRun.step run fun d own h' v H' b' G' e0 x vs rs run => ?_
  obtain ⟨vs, vw⟩ := rs.vw vs
  exact ⟨d, own, h', b', G, _, cap, vs, vw, run⟩
theorem sem_blt {t : Blt} {es : Es} (q : semE Y cap (.blt t es) σ H Q) : tCB (rB Y.K Y.ca (evB t)) (semEs Y false es) σ H Q := by
  obtain ⟨env, h, b, G, B, run⟩ := q
  refine ⟨env, h, b, G, B, ?_⟩
  have run : Run Y.K Y.ca cap H b G ((evEs Y.P Y.cx false es env h).bind fun r => evB t r.1 r.2) Q (WE Y.W σ) := run
  exact finRun.stepR run fun p H' b' _ x run s vs ao => ⟨p.1, p.2, b', G, _, cap, s, ao.vws, run⟩
/-- a new list or dict becomes a cell of the heap -/
theorem push_cell {K : Kx} {ca : Nat → Addr} {W' : L2.XK} {b b' : List Addr} {G G' : Addr → Prop} {H' : HpC} {d : D} {h' : Hp} {v : V} {c : Cell} (hc : cellD c = d) (e : Ext H b G H' b' G') (vs : VS K H' b' G' h') (rs : Res K true H' b' G v d true G')
    (run : Run K ca cap H b G (.ok (.ref h'.length, false, h' ++ [c])) Q W') : Q v H' := by
  unfold Res at rs
  rw [if_pos rfl] at rs
  obtain ⟨p, rfl, nG, rfl, t⟩ := rs
  have nb : p ∉ b' := fun m => vs.dis p m (.inr rfl)
  have hl := vs.hp.len
  have none1 : H p = none := (e.new p (.inr rfl)).elim (fun z => absurd z nG) id
  have ww : ∀ a, wof (b' ++ [p]) G a → wof b' (plus G p) a := fun a z => z.elim (fun z => (List.mem_append.mp z).elim .inl fun z => .inr (.inr (by simpa using z))) fun z => .inr (.inl z)
  have kp : Kept H' (wof b' (plus G p)) b' H' (wof (b' ++ [p]) G) (b' ++ [p]) := ⟨fun a o e n => ⟨e, fun z => n (ww a z)⟩, fun n a e => by rw [List.getElem?_append_left (List.getElem?_eq_some_iff.mp e).1]; exact e⟩
  have new : VS K H' (b' ++ [p]) G (h' ++ [c]) := by
    refine ⟨?_, fun a m z => ?_, ⟨by rw [List.length_append, List.length_append, hl]; rfl, fun n c' a e1 e2 => ?_⟩, fun a z => vs.live a (.inl z)⟩
    · refine List.nodup_append.mpr ⟨vs.nd, by simp, fun a ha c hc e => ?_⟩
      rw [List.mem_singleton] at hc
      exact nb (by rw [← hc, ← e]; exact ha)
    · rcases List.mem_append.mp m with m | m
      · exact vs.dis a m (.inl z)
      · rw [List.mem_singleton] at m
        exact nG (by rw [← m]; exact z)
    · by_cases hn : n < h'.length
      · rw [List.getElem?_append_left hn] at e1
        rw [List.getElem?_append_left (by rw [hl]; exact hn)] at e2
        exact (vs.hp.at_ n c' a e1 e2).kept kp rfl
      · have hn1 : n < (h' ++ [c]).length := (List.getElem?_eq_some_iff.mp e1).1
        rw [List.length_append, List.length_singleton] at hn1
        have hn2 : n = h'.length := by omega
        subst hn2
        rw [List.getElem?_append_right (Nat.le_refl _), Nat.sub_self] at e1
        rw [List.getElem?_append_right (by rw [hl]; exact Nat.le_refl _), hl, Nat.sub_self] at e2
        cases e1
        cases e2
        rw [hc]
        exact t.kept kp rfl
  have ext : Ext H b G H' (b' ++ [p]) G := by
    refine ⟨fun a o q n => ⟨(e.keep a o q n).1, fun m => ?_⟩, fun n a q => kp.pre n a (e.pre n a q), fun a z => .inl z, e.there⟩
    rcases List.mem_append.mp m with m | m
    · exact (e.keep a o q n).2 m
    · rw [List.mem_singleton] at m
      rw [m, none1] at q
      cases q
  exact run (.ref p) H' (b' ++ [p]) G ext new (Res.plain (.ref (by rw [List.getElem?_append_right (by rw [hl]; exact Nat.le_refl _), hl, Nat.sub_self]; rfl)))
theorem sem_heap {e : E} (q : semE Y cap (.heap e) σ H Q) : semE Y true e σ H Q := by
  obtain ⟨env, h, b, G, B, run⟩ := q
  refine ⟨env, h, b, G, B, ?_⟩
  have run : Run Y.K Y.ca cap H b G ((evE Y.P Y.cx true e env h).bind fun r => match r with
    | (.lst xs, true, h1) => .ok (.ref h1.length, false, h1 ++ [.lst xs])
    | (.dct ks vs, true, h1) => .ok (.ref h1.length, false, h1 ++ [.dct ks vs])
    | _ => .bad) Q (WE Y.W σ) := run
  generalize evE Y.P Y.cx true e env h = r at run ⊢
  cases r with
  | ok p =>
    obtain ⟨d, own, h'⟩ := p
    intro v H' b' G' e s rs
    cases own with
    | false => cases d <;> exact False.elim run
    | true =>
      cases d with
      | lst xs => exact push_cell (c := .lst xs) rfl e s rs run
      | dct ks vs => exact push_cell (c := .dct ks vs) rfl e s rs run
      | _ => exact False.elim run
  | exn x h' => exact run
  | bad => exact run
end
end Rw

set_option maxHeartbeats 2000000
/-! L2e: methods, list comprehensions. -/
namespace Rw
open PySem PySem.Spec PyProof.Rows L2

section
variable {K : Kx} {H : HpC} {b : List Addr} {G : Addr → Prop} {h : Hp}
/-- a cell is written -/
theorem vs_put {n : Nat} {a : Addr} {o : HO} {d : D} {c : Cell} (s : VS K H b G h) (e : b[n]? = some a) (hc : cellD c = d) (x : Holds K H (wof b G) b o d) : Ext H b G (upd H a o) b G ∧ VS K (upd H a o) b G (h.set n c) := by
  have m : a ∈ b := List.mem_of_getElem? e
  have w : wof b G a := .inl m
  have kp : Kept H (wof b G) b (upd H a o) (wof b G) b := Kept.put w
  refine ⟨⟨fun p u q z => ⟨by rw [upd_ne fun y => z (by rw [y]; exact m)]; exact q, z⟩, fun _ _ z => z, fun _ z => .inl z, fun p z => ?_⟩, ⟨s.nd, s.dis, ⟨by rw [List.length_set]; exact s.hp.len, fun j c' p e1 e2 => ?_⟩, fun p z => ?_⟩⟩
  · by_cases y : p = a
    · rw [y, upd_same]; exact fun z => nomatch z
    · rw [upd_ne y]; exact z
  · by_cases y : j = n
    · subst y
      rw [e] at e2
      cases e2
      have l : j < h.length := by rw [← s.hp.len]; exact (List.getElem?_eq_some_iff.mp e).1
      rw [List.getElem?_set_self l] at e1
      cases e1
      rw [hc]
      exact x.put w
    · rw [List.getElem?_set_ne (Ne.symm y)] at e1
      refine (s.hp.at_ j c' p e1 e2).kept kp (upd_ne fun z => ?_)
      subst z
      exact y ((List.getElem?_inj (List.getElem?_eq_some_iff.mp e2).1 s.nd).mp (e2.trans e.symm))
  · by_cases y : p = a
    · rw [y, upd_same]; exact fun z => nomatch z
    · rw [upd_ne y]; exact s.live p z
end
theorem evMut_kind {m : Mt} {c c' : Cont} {as : List D} {d : D} (e : evMut m c as = some (d, c')) : (∃ xs ys, c = .lst xs ∧ c' = .lst ys) ∨ ∃ ks vs ks' vs', c = .dct ks vs ∧ c' = .dct ks' vs' := by
  unfold evMut at e
  split at e
  · split at e
    · cases e; exact .inl ⟨_, _, rfl, rfl⟩
    · cases e
  · split at e
    · cases e; exact .inl ⟨_, _, rfl, rfl⟩
    · cases e
  · cases e; exact .inl ⟨_, _, rfl, rfl⟩
  · split at e
    · cases e; exact .inl ⟨_, _, rfl, rfl⟩
    · cases e
  · split at e
    · cases e; exact .inl ⟨_, _, rfl, rfl⟩
    · cases e
  · split at e
    · split at e
      · split at e
        · cases e; exact .inl ⟨_, _, rfl, rfl⟩
        · cases e
      · cases e
    · cases e
  · split at e
    · split at e
      · cases e; exact .inr ⟨_, _, _, _, rfl, rfl⟩
      · cases e; exact .inr ⟨_, _, _, _, rfl, rfl⟩
    · cases e
  · cases e
def contC : Cont → Cell
  | .lst xs => .lst xs
  | .dct ks vs => .dct ks vs
theorem contC_d (c : Cont) : cellD (contC c) = c.d := by cases c <;> rfl
section
variable {X : Cx} {ca : Nat → Addr} {H : HpC} {b : List Addr} {G : Addr → Prop} {h : Hp}
theorem tys_kind {d : D} {v : V} {k : Nat} (s : VS (kx X) H b G h) (vw : Vw (kx X) H b G v d) (e : kindOf h d = some k) (hk : k = 3 ∨ k = 4 ∨ k = 5) : TyS X (kName k) v H := by
  rcases hk with rfl | rfl | rfl
  · have el : ∃ xs, listOf h d = some xs := by
      cases d <;> first | (cases e; done) | exact ⟨_, rfl⟩ | skip
      rename_i n
      unfold kindOf at e
      cases q : h[n]? with
      | none => simp only [q] at e; cases e
      | some c => cases c <;> simp only [q] at e <;> first | (cases e; done) | exact ⟨_, by simp only [listOf, q]; rfl⟩
    obtain ⟨xs, el⟩ := el
    obtain ⟨a, ws, rfl, hl, _⟩ := vw.list s el
    exact tys_list hl
  · cases d <;> first | (cases e; done) | skip
    · obtain ⟨a, ws, rfl, hl, _⟩ := vw.tup
      exact tys_tup hl
    · rename_i n
      unfold kindOf at e
      cases q : h[n]? with
      | none => simp only [q] at e; cases e
      | some c => cases c <;> simp only [q] at e <;> cases e
  · have el : ∃ ks xs, dictOf h d = some (ks, xs) := by
      cases d <;> first | (cases e; done) | exact ⟨_, _, rfl⟩ | skip
      rename_i n
      unfold kindOf at e
      cases q : h[n]? with
      | none => simp only [q] at e; cases e
      | some c => cases c <;> simp only [q] at e <;> first | (cases e; done) | exact ⟨_, _, by simp only [dictOf, q]; rfl⟩
    obtain ⟨ks, xs, el⟩ := el
    obtain ⟨a, kvs, rfl, hl, _⟩ := vw.dict s el
    exact tys_dict hl
/-- d.get(k[, y]) -/
def rGet (K : Kx) : V → List V → HpC → VK → Prop := fun x xs H Q => ∃ a kvs k rest, x = .ref a ∧ Rd H a (.dK kvs) ∧ xs = kV k :: rest ∧ ((rest = [] ∧ Q ((valV kvs k).getD .non) H) ∨ ∃ y, rest = [y] ∧ Q ((valV kvs k).getD y) H)
theorem mt_get (hu : X.A.units + 80 < cLine) : MtR X "dict.get" (rGet (kx X)) := by
  rintro pins s σ H x xs v us Q I rx rxs ⟨a, kvs, k, rest, rfl, hr, rfl, q⟩
  cases rx
  rcases q with ⟨rfl, q⟩ | ⟨y, rfl, q⟩
  · obtain ⟨u, rfl, ru⟩ := rxs.one
    exact d_get1 (by omega) I (.inl ⟨kvs, k, hr, rfl, rfl⟩) ru fun w' s' I' rw' => ⟨_, H, I', rw', q⟩
  · obtain ⟨u, w, rfl, ru, rw'⟩ := rxs.two
    exact d_get2 (by omega) I (.inl ⟨kvs, k, hr, rfl, rfl⟩) ru rw' fun w' s' I' rw' => ⟨_, H, I', rw', q⟩
theorem reps_vws {K : Kx} : ∀ {vs : List V} {ds : List D}, Reps K H (wof b G) b vs ds → Vws K H b G vs ds
  | _, _, .nil => .nil
  | _, _, .cons r t => .cons (.rep r) (reps_vws t)
theorem ArgsOk.vw2 {K : Kx} {cap : Bool} {vs : List V} {ds : List D} (x : ArgsOk K cap H b G vs ds) : Vws K H b G vs ds := by
  cases cap with
  | false => exact x.vws
  | true => exact reps_vws x.reps
def idOf (m : Mt) (k : Nat) : String := match m with
  | .index => if k = 4 then "tuple.index" else "list.index"
  | .get1 => "dict.get"
  | .get2 => "dict.get"
  | m => mutId m
theorem mf_all {m : Mt} {k : Nat} (h : mtOk m (some k) = true) : MF (mtName m) (kName k) (idOf m k) := by
  cases m <;> simp [mtOk] at h
  · rcases h with rfl | rfl
    · exact mf_index
    · exact mf_tindex
  all_goals subst h
  · exact mf_get
  · exact mf_get
  · exact mf_pop
  · exact mf_pop
  · exact mf_append
  · exact mf_extend
  · exact mf_insert
  · exact mf_clear
  · exact mf_setd
theorem mut_run {m : Mt} {cap : Bool} {r : D} {as : List D} {v : V} {vs : List V} {Q : VK} {W' : L2.XK} {k : Nat} (s : VS (kx X) H b G h) (vr : Vw (kx X) H b G v r) (ao : ArgsOk (kx X) m.keeps H b G vs as) (ek : kindOf h r = some k)
    (run : Run (kx X) ca cap H b G (mthMut m r as h) Q W') : ∃ f, MtR X (mutId m) f ∧ f v vs H Q := by
  cases r with
  | ref n =>
    obtain ⟨a, e1, rfl⟩ : ∃ a, b[n]? = some a ∧ v = .ref a := by
      cases vr with
      | rep r => cases r with | ref r => exact ⟨_, r, rfl⟩
      | top e t => cases t
    have fin : ∀ (c c' : Cont) (d : D), h[n]? = some (contC c) → evMut m c as = some (d, c') → Run (kx X) ca cap H b G (.ok (d, false, h.set n (contC c'))) Q W' → ∃ f, MtR X (mutId m) f ∧ f (.ref a) vs H Q := fun c c' d q e run => by
      have t := s.cell q e1
      rw [contC_d] at t
      refine ⟨rMut (kx X) m, mt_mut m, a, b, G, c, as, d, c', rfl, t, ao, e, fun w o' ho rw' => ?_⟩
      obtain ⟨x, s2⟩ := vs_put (c := contC c') s e1 (contC_d c') ho
      exact run w _ b G x s2 (Res.plain (rw'.kept x.kept))
    unfold mthMut at run
    cases q : h[n]? with
    | none => simp only [q] at run; exact False.elim run
    | some c =>
      unfold kindOf at ek
      simp only [q] at ek
      cases c with
      | lst xs =>
        simp only [q] at run
        cases e : evMut m (.lst xs) as with
        | none => simp only [e] at run; exact False.elim run
        | some p =>
          obtain ⟨d, c'⟩ := p
          rcases evMut_kind e with ⟨_, ys, _, rfl⟩ | ⟨_, _, _, _, z, _⟩
          · simp only [e] at run
            cases ek
            exact fin (.lst xs) (.lst ys) d q e run
          · cases z
      | dct ks ws =>
        simp only [q] at run
        cases e : evMut m (.dct ks ws) as with
        | none => simp only [e] at run; exact False.elim run
        | some p =>
          obtain ⟨d, c'⟩ := p
          rcases evMut_kind e with ⟨_, ys, z, _⟩ | ⟨_, _, ks', ws', _, rfl⟩
          · cases z
          · simp only [e] at run
            cases ek
            exact fin (.dct ks ws) (.dct ks' ws') d q e run
      | ins _ _ => simp only [q] at run; exact False.elim run
  | _ => exact False.elim run
theorem get_run (hu : X.A.units + 80 < cLine) {cap : Bool} {r k0 y0 : D} {v vk : V} {rest : List V} {Q : VK} {W' : L2.XK} (s : VS (kx X) H b G h) (vr : Vw (kx X) H b G v r) (vw : Vw (kx X) H b G vk k0) (hr : (rest = [] ∧ y0 = .non) ∨ ∃ y, rest = [y] ∧ Rep (kx X) H (wof b G) b y y0)
    (run : Run (kx X) ca cap H b G (mthGet r k0 y0 h) Q W') : ∃ f, MtR X "dict.get" f ∧ f v (vk :: rest) H Q := by
  refine ⟨rGet (kx X), mt_get hu, ?_⟩
  unfold mthGet at run
  cases ed : dictOf h r with
  | none => simp only [ed] at run; exact False.elim run
  | some p =>
    obtain ⟨ks, ws⟩ := p
    simp only [ed] at run
    split at run
    · rename_i c
      rw [Bool.and_eq_true] at c
      obtain ⟨key, rfl⟩ := kD_of c.1
      obtain ⟨a, kvs, rfl, hr', rfl, rd⟩ := vr.dict s ed
      cases key_of_kD vw
      have got : ∀ (y : V), Rep (kx X) H (wof b G) b y y0 → Q ((valV kvs key).getD y) H := fun y ry => by
        cases el : lookD (kvs.map fun p => kD p.1) ws (kD key) with
        | none =>
          rw [(lookD_kv rd).2 el]
          rw [el] at run
          exact run.val s ry
        | some d0 =>
          obtain ⟨w, ew, rw'⟩ := (lookD_kv rd).1 d0 el
          rw [ew]
          rw [el] at run
          exact run.val s rw'
      refine ⟨a, kvs, key, rest, rfl, hr', rfl, ?_⟩
      rcases hr with ⟨rfl, rfl⟩ | ⟨y, rfl, ry⟩
      · exact .inl ⟨rfl, got .non .non⟩
      · exact .inr ⟨y, rfl, got y ry⟩
    · exact False.elim run
/-- the method that is called, at the arguments -/
theorem mth_run (hu : X.A.units + 80 < cLine) {m : Mt} {cap : Bool} {r : D} {as : List D} {v : V} {vs : List V} {Q : VK} {W' : L2.XK} {k : Nat} (s : VS (kx X) H b G h) (vr : Vw (kx X) H b G v r) (ao : ArgsOk (kx X) m.keeps H b G vs as) (hk : mtOk m (some k) = true) (ek : kindOf h r = some k)
    (run : Run (kx X) ca cap H b G (evMth m r as h) Q W') : ∃ f, MtR X (idOf m k) f ∧ f v vs H Q := by
  have one : ∀ x, as = [x] → ∃ w, vs = [w] ∧ Vw (kx X) H b G w x := fun x e => by subst e; exact ao.vw2.one
  cases m with
  | index =>
    match as, ao, run, one with
    | [x], ao, run, one =>
      obtain ⟨w, rfl, vx⟩ := one x rfl
      obtain ⟨k', ek', f, hm, q⟩ := index_all hu s vr vx (show Run (kx X) ca cap H b G (mthIx r x h) Q W' from run)
      rw [ek] at ek'
      cases ek'
      exact ⟨f, hm, q⟩
    | [], ao, run, _ => exact False.elim run
    | _ :: _ :: _, ao, run, _ => exact False.elim run
  | get1 =>
    have hk : k = 5 := by simpa [mtOk] using hk
    subst hk
    match as, ao, run, one with
    | [x], ao, run, one =>
      obtain ⟨w, rfl, vx⟩ := one x rfl
      obtain ⟨f, hm, q⟩ := get_run hu s vr vx (.inl ⟨rfl, rfl⟩) (show Run (kx X) ca cap H b G (mthGet r x .non h) Q W' from run)
      exact ⟨f, hm, q⟩
    | [], ao, run, _ => exact False.elim run
    | _ :: _ :: _, ao, run, _ => exact False.elim run
  | get2 =>
    have hk : k = 5 := by simpa [mtOk] using hk
    subst hk
    match as, ao, run with
    | [x, y], ao, run =>
      have rr : Reps (kx X) H (wof b G) b vs [x, y] := ao
      cases rr with
      | cons rx t =>
        cases t with
        | cons ry t =>
          cases t
          obtain ⟨f, hm, q⟩ := get_run hu s vr (.rep rx) (.inr ⟨_, rfl, ry⟩) (show Run (kx X) ca cap H b G (mthGet r x y h) Q W' from run)
          exact ⟨f, hm, q⟩
    | [], ao, run => exact False.elim run
    | [_], ao, run => exact False.elim run
    | _ :: _ :: _ :: _, ao, run => exact False.elim run
  | count => simp [mtOk] at hk
  | remove => simp [mtOk] at hk
  | _ => exact mut_run s vr ao ek run
theorem sem_mth {Y : Sx} (hK : Y.K = kx X) (hu : X.A.units + 80 < cLine) {m : Mt} {a : E} {es : Es} {cap : Bool} {σ : L2.St} {Q : VK} (q : semE Y cap (.mth m a es) σ H Q) : tMth X (mtName m) (semE Y false a) (semEs Y m.keeps es) σ H Q := by
  obtain ⟨env, h, b, G, B, run⟩ := q
  refine ⟨env, h, b, G, B, ?_⟩
  have run : Run Y.K Y.ca cap H b G ((evE Y.P Y.cx false a env h).bind fun r => if mtOk m (kindOf r.2.2 r.1) then (evEs Y.P Y.cx m.keeps es env r.2.2).bind fun q => if kindOf r.2.2 r.1 == kindOf q.2 r.1 then evMth m r.1 q.1 q.2 else .bad else .bad) Q (WE Y.W σ) := run
  refine finRun.step run fun d own h' v H' b' G' e0 x vs rs run => ?_
  obtain ⟨vs, vw⟩ := rs.vw vs
  split at run
  · rename_i ok
    cases ek : kindOf h' d with
    | none => rw [show kindOf (d, own, h').2.2 (d, own, h').1 = none from ek] at ok; cases m <;> simp [mtOk] at ok
    | some k =>
      rw [show kindOf (d, own, h').2.2 (d, own, h').1 = some k from ek] at ok
      have hk : k = 3 ∨ k = 4 ∨ k = 5 := by cases m <;> simp [mtOk] at ok <;> omega
      have vs0 := vs
      rw [hK] at vs vw
      refine ⟨kName k, idOf m k, mf_all ok, tys_kind vs vw ek hk, env, h', b', G, B.on x vs0, finRun.stepR run fun p H2 b2 e2 x2 run s2 ws ao => ?_⟩
      split at run
      · rename_i ek2
        have ek2 : kindOf p.2 d = some k := by
          have z : (kindOf h' d == kindOf p.2 d) = true := ek2
          rw [ek] at z
          exact (eq_of_beq z).symm
        rw [hK] at s2 ao run
        exact mth_run hu s2 (vw.ext vs x2 (fun _ z => z)) ao ok ek2 run
      · exact False.elim run
  · exact False.elim run
end
end Rw

set_option maxHeartbeats 2000000
/-! L2f: comprehensions. -/
namespace Rw
open PySem PySem.Spec PyProof.Rows L2

theorem wipe_idem (σ : L2.St) (is js : List Nat) (h : ∀ i ∈ is, i ∈ js) : wipe (wipe σ is) js = wipe σ js := by
  apply List.ext_getElem?
  intro n
  by_cases hn : n ∈ js
  · have z : ∀ σ : L2.St, (wipe σ js)[n]? = if n < σ.length then some none else none := fun σ => by
      by_cases hl : n < σ.length
      · rw [if_pos hl]
        cases q : (wipe σ js)[n]? with
        | none =>
          have := List.getElem?_eq_none_iff.mp q
          rw [wipe_length] at this
          omega
        | some o =>
          cases o with
          | none => rfl
          | some x => exact absurd hn (wipe_some q).2
      · rw [if_neg hl]
        exact List.getElem?_eq_none_iff.mpr (by rw [wipe_length]; omega)
    rw [z, z, wipe_length]
  · have hn2 : n ∉ is := fun m => hn (h n m)
    rw [wipe_out hn, wipe_out hn2, wipe_out hn]
theorem wipe_set (σ : L2.St) (i : Nat) (x : Option V) (js : List Nat) (h : i ∈ js) : wipe (σ.set i x) js = wipe σ js := by
  apply List.ext_getElem?
  intro n
  by_cases hn : n ∈ js
  · have z : ∀ σ : L2.St, (wipe σ js)[n]? = if n < σ.length then some none else none := fun σ => by
      by_cases hl : n < σ.length
      · rw [if_pos hl]
        cases q : (wipe σ js)[n]? with
        | none =>
          have := List.getElem?_eq_none_iff.mp q
          rw [wipe_length] at this
          omega
        | some o =>
          cases o with
          | none => rfl
          | some x => exact absurd hn (wipe_some q).2
      · rw [if_neg hl]
        exact List.getElem?_eq_none_iff.mpr (by rw [wipe_length]; omega)
    rw [z, z, List.length_set]
  · have hn2 : i ≠ n := fun e => hn (e ▸ h)
    rw [wipe_out hn, wipe_out hn, List.getElem?_set_ne hn2]
theorem wipeE_length (env : Env) : ∀ is : List Nat, (wipeE env is).length = env.length
  | [] => rfl
  | i :: is => by unfold wipeE; rw [List.length_set, wipeE_length env is]
theorem wipeE_some {env : Env} {i : Nat} {x : Sl} : ∀ {is : List Nat}, (wipeE env is)[i]? = some (some x) → env[i]? = some (some x) ∧ i ∉ is
  | [], h => ⟨h, by simp⟩
  | v :: vs, h => by
    unfold wipeE at h
    by_cases hi : v = i
    · subst hi
      by_cases hv : v < (wipeE env vs).length
      · rw [List.getElem?_set_self hv] at h; cases h
      · rw [List.getElem?_eq_none (by simpa using hv)] at h; cases h
    · rw [List.getElem?_set_ne hi] at h
      obtain ⟨h1, h2⟩ := wipeE_some h
      exact ⟨h1, by simp only [List.mem_cons, not_or]; exact ⟨fun e => hi e.symm, h2⟩⟩
section
variable {K : Kx} {H H' : HpC} {b : List Addr} {G : Addr → Prop} {env : Env} {σ : L2.St}
theorem Slots.wipe (s : Slots K env σ H b G) (is : List Nat) : Slots K (wipeE env is) (wipe σ is) H b G := fun i x e => by
  obtain ⟨e1, e2⟩ := wipeE_some e
  obtain ⟨v, e3, q⟩ := s i x e1
  exact ⟨v, by rw [wipe_out e2]; exact e3, q⟩
theorem Slots.set {i : Nat} {v : V} {d : D} (s : Slots K env σ H b G) (l : env.length ≤ σ.length) (hi : i < env.length) (r : Rep K H (wof b G) b v d) : Slots K (env.set i (some ⟨d, false⟩)) (σ.set i (some v)) H b G := fun j x e => by
  by_cases z : j = i
  · subst z
    rw [List.getElem?_set_self hi] at e
    cases e
    refine ⟨v, List.getElem?_set_self (by omega), ?_⟩
    unfold SlotOk
    rw [if_neg Bool.false_ne_true]
    exact r
  · rw [List.getElem?_set_ne (Ne.symm z)] at e
    obtain ⟨w, e2, q⟩ := s j x e
    exact ⟨w, by rw [List.getElem?_set_ne (Ne.symm z)]; exact e2, q⟩
end
/-- a block's code: no error comes out -/
abbrev Sx.blk (Y : Sx) : Sx := { Y with W := fun _ _ _ _ => False, exv := none }
theorem nox_ok {α : Type} {r : R α} {β : Type} {f : α → R β} {x : R β} (e : r.nox.bind f = x) (hx : x ≠ .bad) : ∃ a, r = .ok a ∧ f a = x := by
  cases r with
  | ok a => exact ⟨a, rfl, e⟩
  | exn _ _ => exact absurd e.symm hx
  | bad => exact absurd e.symm hx
section
variable {K : Kx} {ca : Nat → Addr} {H : HpC} {b : List Addr} {G : Addr → Prop} {W' W2 : L2.XK}
/-- where no error may come out, whatever is wished -/
theorem FinP.stepN {β : Type} {F : R β → HpC → List Addr → Prop} (P : FinP K ca G W' F) {cap : Bool} {r : RV} {f : D × Bool × Hp → R β} {Q : VK} (x : F (r.nox.bind f) H b)
    (hq : ∀ d own h' v H' b' G', Ext H b G H' b' G → VS K H' b' G' h' → Res K cap H' b' G v d own G' → F (f (d, own, h')) H' b' → Q v H') : Run K ca cap H b G r Q W2 := by
  cases r with
  | ok p =>
    obtain ⟨d, own, h'⟩ := p
    intro v H' b' G' e s r
    exact hq d own h' v H' b' G' (r.ext e) s r (P.ext x (r.ext e))
  | exn y h' => exact absurd x P.bad
  | bad => exact absurd x P.bad
theorem FinP.stepRN {α β : Type} {F : R β → HpC → List Addr → Prop} (P : FinP K ca G W' F) {r : R α} {f : α → R β} {ok : α → HpC → List Addr → Prop} (x : F (r.nox.bind f) H b)
    (hq : ∀ a H' b', Ext H b G H' b' G → F (f a) H' b' → ok a H' b') : RunR K ca H b G r ok W2 := by
  cases r with
  | ok p => exact fun H' b' e => hq p H' b' e (P.ext x e)
  | exn y h' => exact absurd x P.bad
  | bad => exact absurd x P.bad
end
/-- the item function of a comprehension -/
def lcF (P : Pg) (cx : Option Exn) (e : E) (t : Tg) (c : E) (own : List Nat) (env : Env) : D → Hp → R (Option D × Hp) := fun d h => match asgT t d (wipeE env own) with
  | some env1 => (asBool (evE P cx false c env1 h)).nox.bind fun k => if k.1 then (evE P cx true e env1 k.2).nox.bind fun y => .ok (some y.1, y.2.2) else .ok (none, k.2)
  | none => .bad
theorem drop_at {ds : List D} {i : Nat} (h : i < ds.length) : ds.drop i = ds[i] :: ds.drop (i + 1) := List.drop_eq_getElem_cons h
/-- one state of the walk: the new list stands at D -/
structure LcSt (K : Kx) (H1 : HpC) (b1 : List Addr) (G : Addr → Prop) (D0 : Addr) (h : Hp) (acc : List D) (H : HpC) (b : List Addr) : Prop where
  ext : Ext H1 b1 G H b (plus G D0)
  vs : VS K H b (plus G D0) h
  top : TopAt K H (wof b (plus G D0)) b D0 (.lst acc)
theorem LcSt.app {K : Kx} {H1 H : HpC} {b1 b : List Addr} {G : Addr → Prop} {D0 : Addr} {h : Hp} {acc : List D} {vs : List V} {v : V} {d : D} (s : LcSt K H1 b1 G D0 h acc H b) (e1 : H1 D0 = none) (e : H D0 = some (.lst vs)) (r : Reps K H (wof b (plus G D0)) b vs acc) (q : Rep K H (wof b (plus G D0)) b v d) :
    LcSt K H1 b1 G D0 h (acc ++ [d]) (upd H D0 (.lst (vs ++ [v]))) b := by
  have nb : D0 ∉ b := fun m => s.vs.dis D0 m (.inr rfl)
  have x : Ext H b (plus G D0) (upd H D0 (.lst (vs ++ [v]))) b (plus G D0) ∨ True := .inr trivial
  have kp : Kept H (wof b (plus G D0)) b (upd H D0 (.lst (vs ++ [v]))) (wof b (plus G D0)) b := Kept.put (.inr (.inr rfl))
  refine ⟨⟨fun a o z n => ?_, s.ext.pre, s.ext.new, fun a z => ?_⟩, ⟨s.vs.nd, s.vs.dis, ⟨s.vs.hp.len, fun n c a e1 e2 => (s.vs.hp.at_ n c a e1 e2).kept kp (upd_ne fun z => nb (z ▸ List.mem_of_getElem? e2))⟩, fun a z => ?_⟩, .lst upd_same ((r.app (.cons q .nil)).kept kp)⟩
  · have ne : a ≠ D0 := fun y => by rw [y, e1] at z; cases z
    rw [upd_ne ne]
    exact s.ext.keep a o z n
  · by_cases y : a = D0
    · rw [y, upd_same]; exact fun z => nomatch z
    · rw [upd_ne y]; exact s.ext.there a z
  · by_cases y : a = D0
    · rw [y, upd_same]; exact fun z => nomatch z
    · rw [upd_ne y]; exact s.vs.live a z
theorem LcSt.on {K : Kx} {H1 H H' : HpC} {b1 b b' : List Addr} {G : Addr → Prop} {D0 : Addr} {h h' : Hp} {acc : List D} (s : LcSt K H1 b1 G D0 h acc H b) (x : Ext H b (plus G D0) H' b' (plus G D0)) (vs : VS K H' b' (plus G D0) h') : LcSt K H1 b1 G D0 h' acc H' b' := by
  refine ⟨s.ext.trans x, vs, s.top.kept x.kept ?_⟩
  obtain ⟨o, e, _⟩ := top_hold s.top
  rw [e]
  exact (x.keep D0 o e fun m => s.vs.dis D0 m (.inr rfl)).1
theorem LcSt.new {K : Kx} {H1 : HpC} {b1 : List Addr} {G : Addr → Prop} {D0 : Addr} {h : Hp} (s : VS K H1 b1 G h) (e : H1 D0 = none) : LcSt K H1 b1 G D0 h [] (upd H1 D0 (.lst [])) b1 :=
  ⟨Ext.laidOwn s e, s.laidOwn e, .lst upd_same .nil⟩
theorem nox_exn {α : Type} {r : R α} {x : Exn} {h : Hp} : r.nox ≠ .exn x h := by cases r <;> exact fun z => nomatch z
theorem nox_of {α : Type} {r : R α} {a : α} (e : r.nox = .ok a) : r = .ok a := by
  cases r with
  | ok b => exact e
  | exn _ _ => cases e
  | bad => cases e
theorem bind_ok' {α β : Type} {r : R α} {f : α → R β} {z : β} (e : r.bind f = .ok z) : ∃ a, r = .ok a ∧ f a = .ok z := by
  cases r with
  | ok a => exact ⟨a, rfl, e⟩
  | exn _ _ => cases e
  | bad => cases e
theorem bind_exn' {α β : Type} {r : R α} {f : α → R β} {x : Exn} {h : Hp} (e : r.bind f = .exn x h) : r = .exn x h ∨ ∃ a, r = .ok a ∧ f a = .exn x h := by
  cases r with
  | ok a => exact .inr ⟨a, rfl, e⟩
  | exn _ _ => exact .inl (by cases e; rfl)
  | bad => cases e
section
variable {P : Pg} {cx : Option Exn} {e c : E} {t : Tg} {own : List Nat} {env : Env} {d : D} {h : Hp}
theorem lcF_ok {r : Option D × Hp} (er : lcF P cx e t c own env d h = .ok r) : ∃ env1 k h2, asgT t d (wipeE env own) = some env1 ∧ asBool (evE P cx false c env1 h) = .ok (k, h2) ∧ ((k = false ∧ r = (none, h2)) ∨ ∃ dy o h4, k = true ∧ evE P cx true e env1 h2 = .ok (dy, o, h4) ∧ r = (some dy, h4)) := by
  unfold lcF at er
  split at er
  · rename_i env1 ea
    obtain ⟨⟨k, h2⟩, e1, e2⟩ := bind_ok' er
    refine ⟨env1, k, h2, ea, nox_of e1, ?_⟩
    cases k with
    | false => exact .inl ⟨rfl, by cases e2; rfl⟩
    | true =>
      obtain ⟨⟨dy, o, h4⟩, e3, e4⟩ := bind_ok' (show (evE P cx true e env1 h2).nox.bind (fun y => .ok (some y.1, y.2.2)) = .ok r from e2)
      exact .inr ⟨dy, o, h4, rfl, nox_of e3, by cases e4; rfl⟩
  · cases er
theorem lcF_exn {x : Exn} {h' : Hp} : lcF P cx e t c own env d h ≠ .exn x h' := by
  intro er
  unfold lcF at er
  split at er
  · rename_i env1 ea
    rcases bind_exn' er with e1 | ⟨⟨k, h2⟩, e1, e2⟩
    · exact nox_exn e1
    · cases k with
      | false => cases e2
      | true =>
        rcases bind_exn' (show (evE P cx true e env1 h2).nox.bind (fun y => .ok (some y.1, y.2.2)) = .exn x h' from e2) with e3 | ⟨_, _, e4⟩
        · exact nox_exn e3
        · cases e4
  · cases er
end
section
variable {Y : Sx} {cap : Bool} {σ : L2.St} {H : HpC} {Q : VK}
/-- one item's turn -/
theorem lc_turn {H1 : HpC} {b1 : List Addr} {G : Addr → Prop} {D0 : Addr} {env : Env} {e c : E} {t : Tg} {own : List Nat} {h : Hp} {acc : List D} {H0 : HpC} {b0 : List Addr} {pr : Bool} {x : V} {d : D} {Nx : HpC → Prop} {r : Option D × Hp}
    (sl : Slots Y.K env σ H0 b0 (plus G D0)) (ln : env.length ≤ σ.length) (cx : CtxOk Y.K Y.cx Y.dd H0 b0 (plus G D0)) (e1 : H1 D0 = none) (st : LcSt Y.K H1 b1 G D0 h acc H0 b0) (it : ItemOk Y.K H0 b0 (plus G D0) pr x d) (hpr : pr = true → isN t = false) (hts : ∀ i ∈ tgSlots t, i ∈ own) (hz : acc.length < maxLen)
    (er : lcF Y.P Y.cx e t c own env d h = .ok r)
    (nxt : ∀ (H' : HpC) (b' : List Addr), LcSt Y.K H1 b1 G D0 r.2 (match r.1 with | some y => acc ++ [y] | none => acc) H' b' → Kept H0 (wof b0 (plus G D0)) b0 H' (wof b' (plus G D0)) b' → Nx H') :
    semT Y.K t x (wipe σ own) H0 fun σ2 H2 => wipe σ2 own = wipe σ own ∧ semB Y.blk c σ2 H2 fun k H3 =>
      if k = true then semE Y.blk true e σ2 H3 fun y H4 => ∃ vacc, H4 D0 = some (.lst vacc) ∧ vacc.length < sizeLine ∧ Nx (upd H4 D0 (.lst (vacc ++ [y]))) else Nx H3 := by
  obtain ⟨env1, k, h2, ea, ec, er⟩ := lcF_ok er
  refine ⟨wipeE env own, b0, plus G D0, pr, d, env1, fun env' σ' => Slots Y.K env' σ' H0 b0 (plus G D0) ∧ env'.length ≤ σ'.length ∧ wipe σ' own = wipe σ own, ?_, ⟨sl.wipe own, by rw [wipeE_length, wipe_length]; exact ln, wipe_idem σ own own fun _ z => z⟩, it, hpr, ea, ?_⟩
  · rintro env' σ' i v d' hi ⟨s1, s2, s3⟩ hl r
    exact ⟨s1.set s2 hl r, by rw [List.length_set, List.length_set]; exact s2, by rw [wipe_set _ _ _ _ (hts i hi)]; exact s3⟩
  · rintro σ2 ⟨s1, s2, s3⟩
    have B : Bd Y.blk env1 h σ2 H0 b0 (plus G D0) := ⟨st.vs, s1, s2, cx, fun p z => by cases z⟩
    refine ⟨s3, env1, h, b0, plus G D0, B, ?_⟩
    show RunR Y.K Y.ca H0 b0 (plus G D0) (asBool (evE Y.P Y.cx false c env1 h)) _ _
    rw [ec]
    intro H3 b3 x3 vs3
    have st3 := st.on x3 vs3
    rcases er with ⟨rfl, rfl⟩ | ⟨dy, o, h4, rfl, ee, rfl⟩
    · exact nxt H3 b3 st3 x3.kept
    · refine ⟨env1, h2, b3, plus G D0, B.on x3 vs3, ?_⟩
      show Run Y.K Y.ca true H3 b3 (plus G D0) (evE Y.P Y.cx true e env1 h2) _ _
      rw [ee]
      intro y H4 b4 G4 x4 vs4 rs
      have x4' := rs.ext x4
      obtain ⟨vs4, ry⟩ := rs.rep vs4
      have st4 := st3.on x4' vs4
      have tp := st4.top
      cases tp with
      | @lst vacc _ eh rr => exact ⟨vacc, eh, by rw [rr.length]; exact lt_line hz, nxt _ b4 (st4.app e1 eh rr ry) ((x3.trans x4').kept.trans (Kept.put (.inr (.inr rfl))))⟩
theorem lcGo_cons {chk : Hp → Bool} {f : D → Hp → R (Option D × Hp)} {d : D} {ds acc : List D} {h : Hp} {β : Type} {g : List D × Hp → R β} {z : R β} (hx : ∀ d h x h', f d h ≠ .exn x h') (e : (lcGo chk f (d :: ds) acc h).bind g = z) (hz : z ≠ .bad) :
    chk h = true ∧ acc.length < maxLen ∧ ∃ r, f d h = .ok r ∧ (lcGo chk f ds (match r.1 with | some y => acc ++ [y] | none => acc) r.2).bind g = z := by
  unfold lcGo at e
  split at e
  · rename_i c
    rw [Bool.and_eq_true, decide_eq_true_iff] at c
    refine ⟨c.1, c.2, ?_⟩
    cases ef : f d h with
    | ok r =>
      refine ⟨r, rfl, ?_⟩
      rw [ef] at e
      obtain ⟨y, h'⟩ := r
      cases y with
      | some y => exact e
      | none => exact e
    | exn x h' => exact absurd ef (hx d h x h')
    | bad => rw [ef] at e; exact absurd e.symm hz
  · exact absurd e.symm hz
theorem run_bad {K : Kx} {ca : Nat → Addr} {b : List Addr} {G : Addr → Prop} {W' : L2.XK} {r : RV} (x : Run K ca cap H b G r Q W') : r ≠ .bad := by
  rintro rfl
  exact x
theorem sem_lc {e c : E} {t : Tg} {w : It} {own : List Nat} (hpr : prW w = true → isN t = false) (hts : ∀ i ∈ tgSlots t, i ∈ own) (q : semE Y cap (.lc e t w c own) σ H Q) : tLc (semI Y false w) (semT Y.K t) (semB Y.blk c) (semE Y.blk true e) own σ H Q := by
  obtain ⟨env, h, b, G, B, run⟩ := q
  refine ⟨env, h, b, G, B, ?_⟩
  have run : Run Y.K Y.ca cap H b G ((evI Y.P Y.cx false w env h).bind fun r => (lcGo (stays r.1 r.2.1) (lcF Y.P Y.cx e t c own env) r.2.1 [] r.2.2).bind fun q => .ok (.lst q.1, true, q.2)) Q (WE Y.W σ) := run
  refine finRun.stepR run fun r H1 b1 er x1 run vs1 J jok => ?_
  obtain ⟨src, ds, h1⟩ := r
  intro D0 e1
  have B1 := B.on x1 vs1
  refine ⟨fun i m H' => m = ds.length - i ∧ i ≤ ds.length ∧ ∃ h acc b', LcSt Y.K H1 b1 G D0 h acc H' b' ∧ Run Y.K Y.ca cap H1 b1 G ((lcGo (stays src ds) (lcF Y.P Y.cx e t c own env) (ds.drop i) acc h).bind fun q => .ok (.lst q.1, true, q.2)) Q (WE Y.W σ), ⟨ds.length, by simp, Nat.zero_le _, h1, [], b1, LcSt.new vs1 e1, run⟩, ?_⟩
  rintro i m H' ⟨rfl, hi, h', acc, b', st, run⟩
  have rl : RlC false H1 b1 G H' b' (plus G D0) := ⟨st.ext.kept, fun _ => ⟨st.ext, fun _ z => .inl z⟩⟩
  by_cases hlt : i < ds.length
  · rw [drop_at hlt] at run
    obtain ⟨hc, hz, r, ef, erest⟩ := lcGo_cons (fun d h x h' => lcF_exn) rfl (run_bad run)
    obtain ⟨go, yl⟩ := (jok H' b' (plus G D0) h' i st.vs rl hc).1 ds[i] (by simp [hlt])
    refine .inr ⟨go, fun H2 => (i + 1 ≤ ds.length ∧ ∃ h acc b', LcSt Y.K H1 b1 G D0 h acc H2 b' ∧ Run Y.K Y.ca cap H1 b1 G ((lcGo (stays src ds) (lcF Y.P Y.cx e t c own env) (ds.drop (i + 1)) acc h).bind fun q => .ok (.lst q.1, true, q.2)) Q (WE Y.W σ)), fun H2 q => ⟨ds.length - (i + 1), by omega, rfl, q.1, q.2⟩, fun x H2 y => ?_⟩
    obtain ⟨x2, same, it⟩ := yl x H2 y
    have st2 := st.on x2 (st.vs.ext x2 same)
    refine lc_turn (B1.sl.ext vs1 st2.ext (fun _ z => .inl z)) B1.ln (B1.cx.ext st2.ext) e1 st2 it hpr hts hz ef fun H3 b3 st3 _ => ⟨hlt, r.2, _, b3, st3, ?_⟩
    rw [← erest] at run
    exact run
  · have hi' : i = ds.length := by omega
    subst hi'
    rw [List.drop_length] at run
    unfold lcGo at run
    split at run
    · rename_i hc
      refine .inl ⟨(jok H' b' (plus G D0) h' ds.length st.vs rl hc).2 (Nat.le_refl _), ?_⟩
      refine run (.ref D0) H' b' (plus G D0) st.ext st.vs ?_
      unfold Res
      rw [if_pos rfl]
      exact ⟨D0, rfl, (vs1.fresh e1).2, rfl, st.top⟩
    · exact False.elim run
/-! ### two clauses -/
def lcF2 (P : Pg) (cx : Option Exn) (e : E) (t : Tg) (c : E) (t1 : Tg) (w1 : It) (c1 : E) (own own1 : List Nat) (env : Env) : D → List D → Hp → R (List D × Hp) := fun d acc h => match asgT t d (wipeE env own) with
  | some env1 => (asBool (evE P cx false c env1 h)).nox.bind fun k => if k.1 then (evI P cx true w1 env1 k.2).nox.bind fun r1 => lcGo (stays r1.1 r1.2.1) (lcF P cx e t1 c1 own1 env1) r1.2.1 acc r1.2.2 else .ok (acc, k.2)
  | none => .bad
theorem lcGo_exn {chk : Hp → Bool} {f : D → Hp → R (Option D × Hp)} (hx : ∀ d h x h', f d h ≠ .exn x h') : ∀ {ds acc : List D} {h : Hp} {x : Exn} {h' : Hp}, lcGo chk f ds acc h ≠ .exn x h'
  | [], acc, h, x, h' => by unfold lcGo; split <;> exact fun z => nomatch z
  | d :: ds, acc, h, x, h' => by
    intro e
    unfold lcGo at e
    split at e
    · rcases bind_exn' e with e1 | ⟨⟨y, h2⟩, e1, e2⟩
      · exact hx _ _ _ _ e1
      · cases y with
        | some y => exact lcGo_exn hx e2
        | none => exact lcGo_exn hx e2
    · cases e
section
variable {P : Pg} {cx : Option Exn} {e c c1 : E} {t t1 : Tg} {w1 : It} {own own1 : List Nat} {env : Env} {d : D} {acc : List D} {h : Hp}
theorem lcF2_ok {r : List D × Hp} (er : lcF2 P cx e t c t1 w1 c1 own own1 env d acc h = .ok r) : ∃ env1 k h2, asgT t d (wipeE env own) = some env1 ∧ asBool (evE P cx false c env1 h) = .ok (k, h2) ∧ ((k = false ∧ r = (acc, h2)) ∨ ∃ src ds h3, k = true ∧ evI P cx true w1 env1 h2 = .ok (src, ds, h3) ∧ lcGo (stays src ds) (lcF P cx e t1 c1 own1 env1) ds acc h3 = .ok r) := by
  unfold lcF2 at er
  split at er
  · rename_i env1 ea
    obtain ⟨⟨k, h2⟩, e1, e2⟩ := bind_ok' er
    refine ⟨env1, k, h2, ea, nox_of e1, ?_⟩
    cases k with
    | false => exact .inl ⟨rfl, by cases e2; rfl⟩
    | true =>
      obtain ⟨⟨src, ds, h3⟩, e3, e4⟩ := bind_ok' (show (evI P cx true w1 env1 h2).nox.bind (fun r1 => lcGo (stays r1.1 r1.2.1) (lcF P cx e t1 c1 own1 env1) r1.2.1 acc r1.2.2) = .ok r from e2)
      exact .inr ⟨src, ds, h3, rfl, nox_of e3, e4⟩
  · cases er
theorem lcF2_exn {x : Exn} {h' : Hp} : lcF2 P cx e t c t1 w1 c1 own own1 env d acc h ≠ .exn x h' := by
  intro er
  unfold lcF2 at er
  split at er
  · rename_i env1 ea
    rcases bind_exn' er with e1 | ⟨⟨k, h2⟩, e1, e2⟩
    · exact nox_exn e1
    · cases k with
      | false => cases e2
      | true =>
        rcases bind_exn' (show (evI P cx true w1 env1 h2).nox.bind (fun r1 => lcGo (stays r1.1 r1.2.1) (lcF P cx e t1 c1 own1 env1) r1.2.1 acc r1.2.2) = .exn x h' from e2) with e3 | ⟨_, _, e4⟩
        · exact nox_exn e3
        · exact lcGo_exn (fun d h x h' => lcF_exn) e4
  · cases er
end
/-- slots whose own tops lie in Gs -/
def SlotsG (K : Kx) (Gs : Addr → Prop) (env : Env) (σ : L2.St) (H : HpC) (b : List Addr) (G : Addr → Prop) : Prop :=
  ∀ (i : Nat) (s : Sl), env[i]? = some (some s) → ∃ v, σ[i]? = some (some v) ∧ if s.own = true then ∃ a, v = .ref a ∧ Gs a ∧ TopAt K H (wof b G) b a s.d else Rep K H (wof b G) b v s.d
section
variable {K : Kx} {Gs : Addr → Prop} {H H' H1 : HpC} {b b' b1 : List Addr} {G G' : Addr → Prop} {env : Env} {σ : L2.St} {h h' : Hp} {D0 : Addr} {acc acc' : List D}
theorem SlotsG.move (s : SlotsG K Gs env σ H b G) (k : Kept H (wof b G) b H' (wof b' G') b') (e : ∀ a, Gs a → H' a = H a) : SlotsG K Gs env σ H' b' G' := fun i x ex => by
  obtain ⟨v, e1, q⟩ := s i x ex
  refine ⟨v, e1, ?_⟩
  split
  · rename_i ho
    rw [if_pos ho] at q
    obtain ⟨a, rfl, g, t⟩ := q
    exact ⟨a, rfl, g, t.kept k (e a g)⟩
  · rename_i ho
    rw [if_neg ho] at q
    exact q.kept k
theorem SlotsG.slots (s : SlotsG K Gs env σ H b G) (e : ∀ a, Gs a → G a) : Slots K env σ H b G := fun i x ex => by
  obtain ⟨v, e1, q⟩ := s i x ex
  refine ⟨v, e1, ?_⟩
  unfold SlotOk
  split
  · rename_i ho
    rw [if_pos ho] at q
    obtain ⟨a, rfl, g, t⟩ := q
    exact ⟨a, rfl, e a g, t⟩
  · rename_i ho
    rw [if_neg ho] at q
    exact q
theorem Slots.toG (s : Slots K env σ H b G) : SlotsG K G env σ H b G := fun i x ex => by
  obtain ⟨v, e1, q⟩ := s i x ex
  refine ⟨v, e1, ?_⟩
  unfold SlotOk at q
  split
  · rename_i ho
    rw [if_pos ho] at q
    exact q
  · rename_i ho
    rw [if_neg ho] at q
    exact q
theorem SlotsG.wipe (s : SlotsG K Gs env σ H b G) (is : List Nat) : SlotsG K Gs (wipeE env is) (wipe σ is) H b G := fun i x e => by
  obtain ⟨e1, e2⟩ := wipeE_some e
  obtain ⟨v, e3, q⟩ := s i x e1
  exact ⟨v, by rw [wipe_out e2]; exact e3, q⟩
theorem SlotsG.set {i : Nat} {v : V} {d : D} (s : SlotsG K Gs env σ H b G) (l : env.length ≤ σ.length) (hi : i < env.length) (r : Rep K H (wof b G) b v d) : SlotsG K Gs (env.set i (some ⟨d, false⟩)) (σ.set i (some v)) H b G := fun j x e => by
  by_cases z : j = i
  · subst z
    rw [List.getElem?_set_self hi] at e
    cases e
    refine ⟨v, List.getElem?_set_self (by omega), ?_⟩
    rw [if_neg Bool.false_ne_true]
    exact r
  · rw [List.getElem?_set_ne (Ne.symm z)] at e
    obtain ⟨w, e2, q⟩ := s j x e
    exact ⟨w, by rw [List.getElem?_set_ne (Ne.symm z)]; exact e2, q⟩
theorem Ext.top (s : VS K H1 b1 G h) (x : Ext H1 b1 G H b G') {a : Addr} (g : G a) : H a = H1 a := by
  cases z : H1 a with
  | none => exact absurd z (s.live a g)
  | some o => exact (x.keep a o z fun m => s.dis a m g).1
end
theorem sem_lc2 {e c c1 : E} {t t1 : Tg} {w w1 : It} {own own1 : List Nat} (hpr : prW w = true → isN t = false) (hts : ∀ i ∈ tgSlots t, i ∈ own) (hpr1 : prW w1 = true → isN t1 = false) (hts1 : ∀ i ∈ tgSlots t1, i ∈ own1) (hoo : ∀ i ∈ own1, i ∈ own) (q : semE Y cap (.lc2 e t w c t1 w1 c1 own own1) σ H Q) :
    tLc2 (semI Y false w) (semT Y.K t) (semB Y.blk c) (semI Y.blk true w1) (semT Y.K t1) (semB Y.blk c1) (semE Y.blk true e) own own1 σ H Q := by
  obtain ⟨env, h, b, G, B, run⟩ := q
  refine ⟨env, h, b, G, B, ?_⟩
  have run : Run Y.K Y.ca cap H b G ((evI Y.P Y.cx false w env h).bind fun r => (lcGo2 (stays r.1 r.2.1) (lcF2 Y.P Y.cx e t c t1 w1 c1 own own1 env) r.2.1 [] r.2.2).bind fun q => .ok (.lst q.1, true, q.2)) Q (WE Y.W σ) := run
  refine finRun.stepR run fun r H1 b1 er x1 run vs1 J jok => ?_
  obtain ⟨src, ds, h1⟩ := r
  intro D0 e1
  have B1 := B.on x1 vs1
  refine ⟨fun i m H' => m = ds.length - i ∧ i ≤ ds.length ∧ ∃ h acc b', LcSt Y.K H1 b1 G D0 h acc H' b' ∧ Run Y.K Y.ca cap H1 b1 G ((lcGo2 (stays src ds) (lcF2 Y.P Y.cx e t c t1 w1 c1 own own1 env) (ds.drop i) acc h).bind fun q => .ok (.lst q.1, true, q.2)) Q (WE Y.W σ), ⟨ds.length, by simp, Nat.zero_le _, h1, [], b1, LcSt.new vs1 e1, run⟩, ?_⟩
  rintro i m H' ⟨rfl, hi, h', acc, b', st, run⟩
  have rl : RlC false H1 b1 G H' b' (plus G D0) := ⟨st.ext.kept, fun _ => ⟨st.ext, fun _ z => .inl z⟩⟩
  by_cases hlt : i < ds.length
  · rw [drop_at hlt] at run
    unfold lcGo2 at run
    split at run
    · rename_i hc
      obtain ⟨⟨acc2, h2⟩, ef, run⟩ : ∃ r, lcF2 Y.P Y.cx e t c t1 w1 c1 own own1 env ds[i] acc h' = .ok r ∧ Run Y.K Y.ca cap H1 b1 G ((lcGo2 (stays src ds) (lcF2 Y.P Y.cx e t c t1 w1 c1 own own1 env) (ds.drop (i + 1)) r.1 r.2).bind fun q => .ok (.lst q.1, true, q.2)) Q (WE Y.W σ) := by
        cases ef : lcF2 Y.P Y.cx e t c t1 w1 c1 own own1 env ds[i] acc h' with
        | ok r => rw [ef] at run; exact ⟨r, rfl, run⟩
        | exn x h' => exact absurd ef lcF2_exn
        | bad => rw [ef] at run; exact False.elim run
      obtain ⟨go, yl⟩ := (jok H' b' (plus G D0) h' i st.vs rl hc).1 ds[i] (by simp [hlt])
      obtain ⟨env1, k, hb, ea, ec, er⟩ := lcF2_ok ef
      refine .inr ⟨go, fun H2 => (i + 1 ≤ ds.length ∧ ∃ b', LcSt Y.K H1 b1 G D0 h2 acc2 H2 b'), fun H2 q => ⟨ds.length - (i + 1), by omega, rfl, q.1, h2, acc2, q.2.elim fun b' st => ⟨b', st, run⟩⟩, fun x H2 y => ?_⟩
      obtain ⟨x2, same, it⟩ := yl x H2 y
      have st2 := st.on x2 (st.vs.ext x2 same)
      have tops : ∀ {H : HpC} {b : List Addr}, Ext H1 b1 G H b (plus G D0) → ∀ a, G a → H a = H1 a := fun x a g => x.top vs1 g
      have sl2 : SlotsG Y.K G env σ H2 b' (plus G D0) := B1.sl.toG.move st2.ext.kept (tops st2.ext)
      have cx2 := B1.cx.ext st2.ext
      refine ⟨wipeE env own, b', plus G D0, _, _, env1, fun env' σ' => SlotsG Y.K G env' σ' H2 b' (plus G D0) ∧ env'.length ≤ σ'.length ∧ wipe σ' own = wipe σ own, ?_, ⟨sl2.wipe own, by rw [wipeE_length, wipe_length]; exact B1.ln, wipe_idem σ own own fun _ z => z⟩, it, hpr, ea, ?_⟩
      · rintro env' σ' i v d' hi ⟨s1, s2, s3⟩ hl r
        exact ⟨s1.set s2 hl r, by rw [List.length_set, List.length_set]; exact s2, by rw [wipe_set _ _ _ _ (hts i hi)]; exact s3⟩
      · rintro σ2 ⟨s1, s2, s3⟩
        have B2 : Bd Y.blk env1 h' σ2 H2 b' (plus G D0) := ⟨st2.vs, s1.slots (fun _ z => .inl z), s2, cx2, fun p z => by cases z⟩
        refine ⟨s3, env1, h', b', plus G D0, B2, ?_⟩
        show RunR Y.K Y.ca H2 b' (plus G D0) (asBool (evE Y.P Y.cx false c env1 h')) _ _
        rw [ec]
        intro H3 b3 x3 vs3
        have st3 := st2.on x3 vs3
        rcases er with ⟨rfl, er⟩ | ⟨src1, ds1, h3, rfl, ei, eg⟩
        · cases er
          exact ⟨hlt, b3, st3⟩
        · show semI Y.blk true w1 σ2 H3 _
          refine ⟨env1, hb, b3, plus G D0, B2.on x3 vs3, ?_⟩
          show RunR Y.K Y.ca H3 b3 (plus G D0) (evI Y.P Y.cx true w1 env1 hb) _ _
          rw [ei]
          intro H4 b4 x4 vs4 J1 jok1
          have st4 := st3.on x4 vs4
          have B4 := (B2.on x3 vs3).on x4 vs4
          refine ⟨fun j m H5 => m = ds1.length - j ∧ j ≤ ds1.length ∧ ∃ h acc b5, LcSt Y.K H1 b1 G D0 h acc H5 b5 ∧ Kept H4 (wof b4 (plus G D0)) b4 H5 (wof b5 (plus G D0)) b5 ∧ lcGo (stays src1 ds1) (lcF Y.P Y.cx e t1 c1 own1 env1) (ds1.drop j) acc h = .ok (acc2, h2), ⟨ds1.length, by simp, Nat.zero_le _, h3, acc, b4, st4, Kept.refl, eg⟩, ?_⟩
          rintro j m H5 ⟨rfl, hj, h5, acc5, b5, st5, kp5, eg⟩
          have rl1 : RlC true H4 b4 (plus G D0) H5 b5 (plus G D0) := ⟨kp5, fun z => by cases z⟩
          by_cases hlt1 : j < ds1.length
          · rw [drop_at hlt1] at eg
            obtain ⟨hc1, hz1, r5, ef5, er5⟩ := lcGo_cons (g := fun q => .ok q) (fun d h x h' => lcF_exn) (show (lcGo (stays src1 ds1) (lcF Y.P Y.cx e t1 c1 own1 env1) (ds1[j] :: ds1.drop (j + 1)) acc5 h5).bind (fun q => .ok q) = .ok (acc2, h2) by rw [eg]; rfl) (by exact fun z => nomatch z)
            have er6 : lcGo (stays src1 ds1) (lcF Y.P Y.cx e t1 c1 own1 env1) (ds1.drop (j + 1)) (match r5.1 with | some y => acc5 ++ [y] | none => acc5) r5.2 = .ok (acc2, h2) := by
              obtain ⟨a, ea, eb⟩ := bind_ok' er5
              cases eb
              exact ea
            obtain ⟨go1, yl1⟩ := (jok1 H5 b5 (plus G D0) h5 j st5.vs rl1 hc1).1 ds1[j] (by simp [hlt1])
            refine .inr ⟨go1, fun H6 => (j + 1 ≤ ds1.length ∧ ∃ h acc b6, LcSt Y.K H1 b1 G D0 h acc H6 b6 ∧ Kept H4 (wof b4 (plus G D0)) b4 H6 (wof b6 (plus G D0)) b6 ∧ lcGo (stays src1 ds1) (lcF Y.P Y.cx e t1 c1 own1 env1) (ds1.drop (j + 1)) acc h = .ok (acc2, h2)), fun H6 q => ⟨ds1.length - (j + 1), by omega, rfl, q.1, q.2⟩, fun x6 H6 y6 => ?_⟩
            obtain ⟨x7, same7, it7⟩ := yl1 x6 H6 y6
            have st7 := st5.on x7 (st5.vs.ext x7 same7)
            have kp7 := kp5.trans x7.kept
            have kp27 := (x3.trans x4).kept.trans kp7
            have sl7 : SlotsG Y.K G env1 σ2 H6 b5 (plus G D0) := s1.move kp27 fun a g => (tops st7.ext a g).trans (tops st2.ext a g).symm
            exact lc_turn (sl7.slots (fun _ z => .inl z)) s2 (B1.cx.ext st7.ext) e1 st7 it7 hpr1 hts1 hz1 ef5 fun H8 b8 st8 kp8 => ⟨hlt1, r5.2, _, b8, st8, kp7.trans kp8, er6⟩
          · have hj' : j = ds1.length := by omega
            subst hj'
            rw [List.drop_length] at eg
            unfold lcGo at eg
            split at eg
            · rename_i hc1
              cases eg
              exact .inl ⟨(jok1 H5 b5 (plus G D0) _ ds1.length st5.vs rl1 hc1).2 (Nat.le_refl _), hlt, b5, st5⟩
            · cases eg
    · exact False.elim run
  · have hi' : i = ds.length := by omega
    subst hi'
    rw [List.drop_length] at run
    unfold lcGo2 at run
    split at run
    · rename_i hc
      refine .inl ⟨(jok H' b' (plus G D0) h' ds.length st.vs rl hc).2 (Nat.le_refl _), ?_⟩
      refine run (.ref D0) H' b' (plus G D0) st.ext st.vs ?_
      unfold Res
      rw [if_pos rfl]
      exact ⟨D0, rfl, (vs1.fresh e1).2, rfl, st.top⟩
    · exact False.elim run
end
end Rw

set_option maxHeartbeats 2000000
/-! L2g: set comprehensions. -/
namespace Rw
open PySem PySem.Spec PyProof.Rows L2 PpSet
section
variable {X : Cx}
def tScK (P : Program) (w : World) (wi : TI) (g : TG) (tt : TT) (te : TE) (vs : List Nat) : TE := fun σ H Q => wi σ H fun J H1 => ∀ D, H1 D = none → ∃ W : Nat → Nat → HpC → Prop, (∃ m, W 0 m (upd H1 D (SetK P w D (fun _ => false) 0))) ∧ ∀ i m H, W i m H →
  (J.stop i H ∧ Q (.ref D) H) ∨ (J.go i H ∧ ∃ Nx : HpC → Prop, (∀ H', Nx H' → ∃ m', m' < m ∧ W (i + 1) m' H') ∧ ∀ x H', J.yld i H x H' → g x (wipe σ vs) H' fun σ2 H2 => wipe σ2 vs = wipe σ vs ∧ tt σ2 H2 fun b H3 =>
    if b = true then te σ2 H3 fun y H4 => ∃ (ck : Key) (S : Key → Bool) (n : Nat), y = kV ck ∧ H4 D = some (SetK P w D S n) ∧ n + 1 < scanBound ∧ Nx (upd H4 D (SetK P w D (fun j => S j || decide (j = ck)) (if S ck = true then n else n + 1))) else Nx H3)
theorem setK_fresh {P : Program} {w : World} {h : Heap} : (h.push { cls := .type "set", dict := none, data := .set #[] 0 (.fresh 0 0 (!w.params.followText "set-order")) }).SetOf (mixKind P w) h.objs.size (fun _ => false) 0 :=
  ⟨_, #[], 0, _, Heap.get?_push_size _ rfl, ⟨rfl, rfl, rfl⟩, rfl, (fun e he => by simp at he), (fun k => by simp), (by decide), (by rfl), rfl⟩
theorem sck_core {pins : List (Addr × Obj)} {s : Shared} {σ : L2.St} {H : HpC} {Q : VK} {elt tg iter : Expr} {ifs : List Expr} {scope : Scope} {own : List (PySem.Str × Nat)} {pos pos' : Pos} {wi : TI} {g : TG} {tt : TT} {te : TE} {use : Option (Value → Sem Unit)} {Qf : Value → Shared → Prop}
    (hcalm : X.calm = true) (hN : X.N.Nodup) (I : Inv X pins σ H s) (hi : PI X tg iter wi) (ok : BlkOk X.N X.env.scope scope own)
    (hg : ∀ (s : Shared) (H : HpC) (C : Addr) (cl : List (PySem.Str × Addr)) (fp : List Addr), PG (X.blk s H scope (compEnvC scope cl C X.env) fp) tg g) (ht : ∀ (s : Shared) (H : HpC) (C : Addr) (cl : List (PySem.Str × Addr)) (fp : List Addr), PTs (X.blk s H scope (compEnvC scope cl C X.env) fp) ifs tt)
    (he : ∀ (s : Shared) (H : HpC) (C : Addr) (cl : List (PySem.Str × Addr)) (fp : List Addr), PE (X.blk s H scope (compEnvC scope cl C X.env) fp) elt te) (hs : ∀ x, foldedSetIterable iter X.env x = pure x)
    (h : tScK X.prog X.w wi g tt te (own.map (·.2)) σ H Q)
    (hRR : ∀ D C s' m H', Inv X pins σ H' s' → Q (.ref D) H' → s'.heap.Ns C m → FpOk X pins H' C → compPost (model X.prog X.w) X.A X.xe use Qf (.ref D) C (.ok .next) s') :
    wpAny (model X.prog X.w) X.A (comprehension (.SetComp elt [⟨tg, iter, ifs, 0⟩] scope pos) scope X.env pos' (newSet (.type "set")) false (eval iter X.env) use) Qf X.xe s := by
  have hfr : ∀ y ∈ scope.names, y.2 = .free → ∃ c, X.env.cells.lookup y.1 = some c := fun y hy e => by
    rcases ok.free y hy e with k | k
    · exact I.ok.has _ (.inl k)
    · exact I.ok.has _ (.inr k)
  refine wpAny_comprehension_free (use := use) rfl hs (closure_ok hfr) ok.kind (fun y hy e => by rw [ok.uniq y hy, e])
    (thn (hi.run pins s σ H _ I h) fun xv z1 hx => thn hx fun itv z2 h2 => ?_)
  obtain ⟨it, fp, tn, J, H2, e, J2, T, w2, f2, q⟩ := h2
  subst e
  refine newSet_ok (newEnv_comp ?_)
  generalize hD : z2.heap.objs.size = D
  have nD : H2 D = none := J2.hok.fresh (Nat.le_of_eq hD)
  obtain ⟨W, ⟨m0, w0⟩, walk⟩ := q D nD
  -- the new list
  generalize hz3 : ({ z2 with heap := z2.heap.push { cls := .type "set", dict := none, data := .set #[] 0 (.fresh 0 0 (!X.w.params.followText "set-order")) } } : Shared) = z3
  have J3 : Inv X pins σ (upd H2 D (SetK X.prog X.w D (fun _ => false) 0)) z3 := by
    rw [← hz3]
    refine J2.laid (t' := z2.toks) (fun b o e => Heap.get?_push_of_some _ e) (Nat.le_of_eq hD) ?_
    rw [← hD]
    exact setK_new setK_fresh
  have h3 : z3.heap = z2.heap.push { cls := .type "set", dict := none, data := .set #[] 0 (.fresh 0 0 (!X.w.params.followText "set-order")) } := by rw [← hz3]
  have sz : ∀ b ∈ fp, b < z2.heap.objs.size := fun b hb => by
    obtain ⟨o, e, _⟩ := T.obj _ _ w2 b hb
    exact Heap.lt_size e
  have f3 : ∀ b ∈ fp, FpOk X pins (upd H2 D (SetK X.prog X.w D (fun _ => false) 0)) b ∧ b < z3.heap.objs.size := fun b hb => by
    have hlt := sz b hb
    refine ⟨⟨?_, (f2 b hb).2⟩, by rw [h3, Heap.size_push]; exact Nat.lt_succ_of_lt hlt⟩
    rw [upd_ne (by rw [← hD]; exact Nat.ne_of_lt hlt)]
    exact (f2 b hb).1
  have w3 : tn 0 z3.heap := T.keep _ _ _ w2 fun b _ o e => by rw [h3]; exact Heap.get?_push_of_some _ e
  have J4 := block_start J3 ok hN f3
  have pg := hg z3 (upd H2 D (SetK X.prog X.w D (fun _ => false) 0)) z3.heap.objs.size (cellsFrom (z3.heap.objs.size + 1) scope.names (cloFrom X.env.cells scope.names [])) fp
  have pt := ht z3 (upd H2 D (SetK X.prog X.w D (fun _ => false) 0)) z3.heap.objs.size (cellsFrom (z3.heap.objs.size + 1) scope.names (cloFrom X.env.cells scope.names [])) fp
  have pe := he z3 (upd H2 D (SetK X.prog X.w D (fun _ => false) 0)) z3.heap.objs.size (cellsFrom (z3.heap.objs.size + 1) scope.names (cloFrom X.env.cells scope.names [])) fp
  show codeAny _ _ (.compStart (.SetComp elt [⟨tg, iter, ifs, 0⟩] scope pos) 0 (.ref it) (.ref D) (compEnvC scope (cellsFrom (z3.heap.objs.size + 1) scope.names (cloFrom X.env.cells scope.names [])) z3.heap.objs.size X.env)) (compPost (model X.prog X.w) X.A X.xe use Qf (.ref D) z3.heap.objs.size) { z3 with heap := pushCells (z3.heap.push { cls := .type "dict", data := .dict #[] }) scope.names }
  have nfp : ∀ b ∈ fp, (upd H2 D (SetK X.prog X.w D (fun _ => false) 0)) b = none := fun b hb => (f3 b hb).1.1
  generalize hce : compEnvC scope (cellsFrom (z3.heap.objs.size + 1) scope.names (cloFrom X.env.cells scope.names [])) z3.heap.objs.size X.env = ce at J4 pg pt pe ⊢
  have cL : ce.locals = z3.heap.objs.size := by subst hce; rfl
  generalize hH3 : upd H2 D (SetK X.prog X.w D (fun _ => false) 0) = H3 at J3 J4 pg pt pe w0 nfp f3
  generalize hz4 : ({ z3 with heap := pushCells (z3.heap.push { cls := .type "dict", data := .dict #[] }) scope.names } : Shared) = z4 at J4 ⊢
  have w4 : tn 0 z4.heap := T.keep _ _ _ w3 fun b _ o e => by rw [← hz4]; exact pushCells_keeps _ _ _ _ (Heap.get?_push_of_some _ e)
  have stay0 : ∀ {σ' : L2.St} {H' : HpC} {s' : Shared}, Inv (X.blk z3 H3 scope ce fp) [] σ' H' s' → (∀ b ∈ fp, H' b = none) → ∀ b ∈ fp, FpOk (X.blk z3 H3 scope ce fp) [] H' b := fun {σ' H' s'} J' hn b hb =>
    ⟨hn b hb, (J'.ok.exf b hb).1, J'.ok.exfs b hb, .inl hb, fun x c e => (J'.ok.exf b hb).2 x c e, fun p hp => absurd (show p ∈ ([] : List (Addr × Obj)) ++ [] from hp) (by simp)⟩
  have loop : codeAny (model X.prog X.w) X.A (.compLoop (.SetComp elt [⟨tg, iter, ifs, 0⟩] scope pos) 0 (.ref it) (.ref D) ce) (compPost (model X.prog X.w) X.A X.xe use Qf (.ref D) z3.heap.objs.size) z4 := by
    refine compLoopS_any (fun n s' => ∃ i H', Inv (X.blk z3 H3 scope ce fp) [] (wipe σ (own.map (·.2))) H' s' ∧ tn i s'.heap ∧ (∀ b ∈ fp, H' b = none) ∧ W i n H') ?_ m0 ⟨0, H3, J4, w4, nfp, w0⟩
    rintro n z5 ⟨i, H5, J5, w5x, n5, w5⟩
    rcases walk i n H5 w5 with ⟨stop, qq⟩ | ⟨go, Nx, hNx, step⟩
    · have td := T.done (X.blk z3 H3 scope ce fp) rfl rfl rfl hcalm i [] z5 _ H5 (fun _ _ => False) J5 (stay0 J5 n5) w5x stop
      refine thnF td fun r z6 ⟨hr, J6⟩ => ?_
      subst hr
      -- back in the def's context
      have J7 : Inv X pins σ H5 z6 := J3.call' (ch := fp) J6.os J6.base J6.hok J6.bare fun b hb => ⟨(f3 b hb).1.2.2.2.1, (f3 b hb).1.2.1, (f3 b hb).1.2.2.2.2.1, (f3 b hb).1.2.2.2.2.2⟩
      have nC : H5 z3.heap.objs.size = none := by
        have z : H5 ce.locals = none := J6.free
        rw [cL] at z
        exact z
      obtain ⟨m, hn, _⟩ := J6.loc
      have hn : z6.heap.Ns ce.locals m := hn
      rw [cL] at hn
      exact hRR D z3.heap.objs.size z6 m H5 J7 qq hn (J3.fpOk (Nat.le_refl _) nC)
    · have ti := T.item (X.blk z3 H3 scope ce fp) rfl rfl rfl hcalm i [] z5 _ H5 (fun _ _ => False) J5 (stay0 J5 n5) w5x go
      refine thnF ti fun r z6 ⟨u, hr, h6⟩ => ?_
      subst hr
      refine thnF h6 fun _ z7 ⟨x, H7, J7, r7, y7, w7, n7⟩ => ?_
      have I7' := J7.pinned (stay0 J7 n7) (T.obj _ _ w7)
      refine thnF (pg.run _ z7 _ H7 x u _ I7' r7 (step x H7 y7)) fun _ z8 ⟨σ8, H8, J8, hw8, q8⟩ => ?_
      refine thnF (pt.run _ z8 σ8 H8 _ J8 q8) fun b z9 ⟨H9, J9, q9⟩ => ?_
      -- the turn's end
      have fin : ∀ {s' : Shared} {H' : HpC}, Inv (X.blk z3 H3 scope ce fp) ([] ++ pinsAt fp z7.heap) σ8 H' s' → Nx H' → ∃ m, m < n ∧ ∃ i H', Inv (X.blk z3 H3 scope ce fp) [] (wipe σ (own.map (·.2))) H' s' ∧ tn i s'.heap ∧ (∀ b ∈ fp, H' b = none) ∧ W i m H' := fun {s' H'} J' nx => by
        obtain ⟨m', hm, w'⟩ := hNx H' nx
        have pin' : ∀ b ∈ fp, ∀ o, z7.heap.get? b = some o → s'.heap.get? b = some o ∧ H' b = none := fun b hb o e =>
          let z := J'.pin (b, o) (List.mem_append_right _ (List.mem_append_right _ (mem_pinsAt hb e)))
          ⟨z.1, z.2.1⟩
        have hl : (wipe σ (own.map (·.2))).length = σ8.length := by rw [← hw8, wipe_length]
        refine ⟨m', hm, i + 1, H', (J'.unpinned (pins := [])).weak hl (fun j v e => ?_), T.keep _ _ _ w7 fun b hb o e => (pin' b hb o e).1, fun b hb => ?_, w'⟩
        · rw [← hw8] at e
          exact (wipe_some e).1
        · obtain ⟨o, e, _⟩ := T.obj _ _ w7 b hb
          exact (pin' b hb o e).2
      cases b with
      | false =>
        simp only [Bool.false_eq_true, if_false] at q9 ⊢
        exact fin J9 q9
      | true =>
        simp only [if_true] at q9 ⊢
        refine thnF (pe.run _ z9 σ8 H9 _ J9 q9) fun z z10 ⟨yv, H10, J10, r10, ck, S0, n0, ey, hD10, hz10, nx⟩ => ?_
        subst ey
        exact thnF (mt_saddK (X := X.blk z3 H3 scope ce fp) _ z10 σ8 H10 (.ref D) [kV ck] (.ref D) [z] (fun _ H' => Nx H') J10 rfl (.cons r10 .nil) ⟨D, ck, S0, n0, rfl, rfl, hD10, hz10, nx⟩) fun u z11 ⟨_, H11, J11, _, nx11⟩ => fin J11 nx11
  exact codeAny_compStart_set loop (T.self X.A 0 _ _ _ w4 loop)
/-- as a value -/
theorem pe_scK {elt tg iter : Expr} {ifs : List Expr} {scope : Scope} {own : List (PySem.Str × Nat)} {pos : Pos} {wi : TI} {g : TG} {tt : TT} {te : TE} (hcalm : X.calm = true) (hN : X.N.Nodup) (hi : PI X tg iter wi) (ok : BlkOk X.N X.env.scope scope own)
    (hg : ∀ (s : Shared) (H : HpC) (C : Addr) (cl : List (PySem.Str × Addr)) (fp : List Addr), PG (X.blk s H scope (compEnvC scope cl C X.env) fp) tg g) (ht : ∀ (s : Shared) (H : HpC) (C : Addr) (cl : List (PySem.Str × Addr)) (fp : List Addr), PTs (X.blk s H scope (compEnvC scope cl C X.env) fp) ifs tt)
    (he : ∀ (s : Shared) (H : HpC) (C : Addr) (cl : List (PySem.Str × Addr)) (fp : List Addr), PE (X.blk s H scope (compEnvC scope cl C X.env) fp) elt te) (hs : ∀ x, foldedSetIterable iter X.env x = pure x := by intro _; rfl) :
    PE X (.SetComp elt [⟨tg, iter, ifs, 0⟩] scope pos) (tScK X.prog X.w wi g tt te (own.map (·.2))) := by
  refine ⟨fun pins s σ H Q I h => ?_⟩
  rw [eval_SetComp]
  refine sck_core hcalm hN I hi ok hg ht he hs h fun D C s' m H' J' q hn f => ⟨m, hn, fun h'' sb => ?_⟩
  obtain ⟨f0, f1, f2, f3, f4, f5⟩ := f
  exact ⟨.ref D, H', J'.turned (t' := s'.toks) (fun b o hb e => (sb.2 b hb).trans e) f0 f1 f3 f4 f5, rfl, q⟩
/-- here = {..} on one line, here a local -/
theorem ps_setScK {i : Nat} {y : Str} {py : Pos} {elt tg iter : Expr} {ifs : List Expr} {scope : Scope} {own : List (Str × Nat)} {pos spos : Pos} {wi : TI} {g : TG} {tt : TT} {te : TE} (hc : X.calm = true) (hN : X.N.Nodup) (hy : X.N[i]? = some y) (hyl : X.env.scope.names.lookup y = some .local)
    (hsw : swapsWith (.SetComp elt [⟨tg, iter, ifs, 0⟩] scope pos) (some (.Name y py)) spos.line X.env = pure true) (hi : PI X tg iter wi) (ok : BlkOk X.N X.env.scope scope own)
    (hg : ∀ (s : Shared) (H : HpC) (C : Addr) (cl : List (Str × Addr)) (fp : List Addr), PG (X.blk s H scope (compEnvC scope cl C X.env) fp) tg g) (ht : ∀ (s : Shared) (H : HpC) (C : Addr) (cl : List (Str × Addr)) (fp : List Addr), PTs (X.blk s H scope (compEnvC scope cl C X.env) fp) ifs tt)
    (he : ∀ (s : Shared) (H : HpC) (C : Addr) (cl : List (Str × Addr)) (fp : List Addr), PE (X.blk s H scope (compEnvC scope cl C X.env) fp) elt te) (hs : ∀ x, foldedSetIterable iter X.env x = pure x) :
    PS X (.Assign [.Name y py] (.SetComp elt [⟨tg, iter, ifs, 0⟩] scope pos) spos) (tAsg (tScK X.prog X.w wi g tt te (own.map (·.2))) (gName i)) := by
  refine ⟨fun pins s σ H D I h => ?_⟩
  rw [exec_Assign_Name_used _ _ _ _ hsw]
  refine wpAny_bind (wpAny_standAt (wpAny_bind ?_))
  show wpAny _ X.A (do let _ ← comprehension (.SetComp elt [⟨tg, iter, ifs, 0⟩] scope pos) scope X.env (firstIterPos [⟨tg, iter, ifs, 0⟩] pos) (newSet (.type "set")) false (eval iter X.env) (some (assign (.Name y py) X.env))) _ _ s
  have h : tScK X.prog X.w wi g tt te (own.map (·.2)) σ H (fun x H1 => gName i x σ H1 D.nx) := h
  refine wpAny_bind (thn (sck_core (Qf := fun _ s' => SP X pins D .next s') hc hN I hi ok hg ht he hs h fun L C s' m H' I' q hn f => ?_) fun _ s' hq => wpAny_pure (wpAny_pure hq))
  show wpAny _ _ (assign (.Name y py) X.env (.ref L)) _ _ _
  obtain ⟨f0, f1, f2, f3, f4, f5⟩ := f
  refine wpAny_assign_Name (store_ok2 (v := V.ref L) I' hN hy (.inl hyl) rfl (fun z2 J2 ⟨a, sb, ha⟩ => ?_) (.inr hyl))
  have haC : C ≠ a := ha.elim (fun z => by rw [z]; exact f1) fun z e => f4 y a z e.symm
  refine ⟨m, hn.sameBut sb haC, fun h3 sb3 => ?_⟩
  exact ⟨_, H', J2.turned (t' := z2.toks) (fun b o hb e => (sb3.2 b hb).trans e) f0 f1 f3 f4 f5, q⟩
end
/-- one state of the walk: the new set stands at D0 -/
structure ScSt (K : Kx) (H1 : HpC) (b1 : List Addr) (G : Addr → Prop) (D0 : Addr) (h : Hp) (acc : List D) (H : HpC) (b : List Addr) : Prop where
  ext : Ext H1 b1 G H b (plus G D0)
  vs : VS K H b (plus G D0) h
  top : ∃ (xs : List Key) (S : Key → Bool), acc = xs.map kD ∧ xs.Nodup ∧ H D0 = some (SetK K.P K.w D0 S xs.length) ∧ ∀ i, S i = true ↔ i ∈ xs
theorem hasK_any (k : Key) (xs : List Key) : ((xs.map kD).any fun z => eqv z (kD k)) = hasK k xs := rfl
theorem ScSt.add {K : Kx} {H1 H : HpC} {b1 b : List Addr} {G : Addr → Prop} {D0 : Addr} {h : Hp} {acc : List D} {xs : List Key} {S : Key → Bool} {k : Key} (s : ScSt K H1 b1 G D0 h acc H b) (e1 : H1 D0 = none) (ea : acc = xs.map kD) (nd : xs.Nodup) (e : H D0 = some (SetK K.P K.w D0 S xs.length)) (hS : ∀ i, S i = true ↔ i ∈ xs) :
    ScSt K H1 b1 G D0 h (if acc.any fun z => eqv z (kD k) then acc else acc ++ [kD k]) (upd H D0 (SetK K.P K.w D0 (fun j => S j || decide (j = k)) (if S k = true then xs.length else xs.length + 1))) b := by
  have nb : D0 ∉ b := fun m => s.vs.dis D0 m (.inr rfl)
  generalize ho : SetK K.P K.w D0 (fun j => S j || decide (j = k)) (if S k = true then xs.length else xs.length + 1) = o
  have kp : Kept H (wof b (plus G D0)) b (upd H D0 o) (wof b (plus G D0)) b := Kept.put (.inr (.inr rfl))
  refine ⟨⟨fun a o z n => ?_, s.ext.pre, s.ext.new, fun a z => ?_⟩, ⟨s.vs.nd, s.vs.dis, ⟨s.vs.hp.len, fun n c a e1 e2 => (s.vs.hp.at_ n c a e1 e2).kept kp (upd_ne fun z => nb (by rw [← z]; exact List.mem_of_getElem? e2))⟩, fun a z => ?_⟩, ?_⟩
  · have ne : a ≠ D0 := fun y => by rw [y, e1] at z; cases z
    rw [upd_ne ne]
    exact s.ext.keep a o z n
  · by_cases y : a = D0
    · rw [y, upd_same]; exact fun z => nomatch z
    · rw [upd_ne y]; exact s.ext.there a z
  · by_cases y : a = D0
    · rw [y, upd_same]; exact fun z => nomatch z
    · rw [upd_ne y]; exact s.vs.live a z
  · rw [ea, hasK_any]
    cases hk : hasK k xs with
    | true =>
      have hm : k ∈ xs := (hasK_mem k xs).mp hk
      refine ⟨xs, fun j => S j || decide (j = k), rfl, nd, by rw [upd_same, ← ho, if_pos ((hS k).mpr hm)], fun i => ?_⟩
      rw [Bool.or_eq_true, hS, decide_eq_true_iff]
      exact ⟨fun z => z.elim id fun z => by rw [z]; exact hm, .inl⟩
    | false =>
      have hm : k ∉ xs := fun z => by rw [(hasK_mem k xs).mpr z] at hk; cases hk
      refine ⟨xs ++ [k], fun j => S j || decide (j = k), by simp, ?_, ?_, fun i => ?_⟩
      · exact List.nodup_append.mpr ⟨nd, by simp, fun a ha c hc z => hm (by rw [List.mem_singleton] at hc; rw [← hc, ← z]; exact ha)⟩
      · rw [upd_same, ← ho, if_neg (fun z => hm ((hS k).mp z)), List.length_append, List.length_singleton]
      · rw [Bool.or_eq_true, hS, decide_eq_true_iff, List.mem_append, List.mem_singleton]
theorem ScSt.on {K : Kx} {H1 H H' : HpC} {b1 b b' : List Addr} {G : Addr → Prop} {D0 : Addr} {h h' : Hp} {acc : List D} (s : ScSt K H1 b1 G D0 h acc H b) (x : Ext H b (plus G D0) H' b' (plus G D0)) (vs : VS K H' b' (plus G D0) h') : ScSt K H1 b1 G D0 h' acc H' b' := by
  refine ⟨s.ext.trans x, vs, ?_⟩
  obtain ⟨xs, S, e1, e2, e3, e4⟩ := s.top
  exact ⟨xs, S, e1, e2, (x.keep D0 _ e3 fun m => s.vs.dis D0 m (.inr rfl)).1, e4⟩
theorem ScSt.new {K : Kx} {H1 : HpC} {b1 : List Addr} {G : Addr → Prop} {D0 : Addr} {h : Hp} (s : VS K H1 b1 G h) (e : H1 D0 = none) : ScSt K H1 b1 G D0 h [] (upd H1 D0 (SetK K.P K.w D0 (fun _ => false) 0)) b1 :=
  ⟨Ext.laidOwn s e, s.laidOwn e, [], _, rfl, .nil, upd_same, fun i => by simp⟩
section
variable {Y : Sx} {cap : Bool} {σ : L2.St} {H : HpC} {Q : VK}
theorem sc_turn {H1 : HpC} {b1 : List Addr} {G : Addr → Prop} {D0 : Addr} {env : Env} {e c : E} {t : Tg} {own : List Nat} {h : Hp} {acc : List D} {H0 : HpC} {b0 : List Addr} {pr : Bool} {x : V} {d : D} {Nx : HpC → Prop} {r : Option D × Hp}
    (sl : Slots Y.K env σ H0 b0 (plus G D0)) (ln : env.length ≤ σ.length) (cx : CtxOk Y.K Y.cx Y.dd H0 b0 (plus G D0)) (e1 : H1 D0 = none) (st : ScSt Y.K H1 b1 G D0 h acc H0 b0) (it : ItemOk Y.K H0 b0 (plus G D0) pr x d) (hpr : pr = true → isN t = false) (hts : ∀ i ∈ tgSlots t, i ∈ own) (hz : acc.length < 4000)
    (er : lcF Y.P Y.cx e t c own env d h = .ok r) (hk : ∀ y, r.1 = some y → keyOk y = true)
    (nxt : ∀ (H' : HpC) (b' : List Addr), ScSt Y.K H1 b1 G D0 r.2 (match r.1 with | some y => if acc.any fun z => eqv z y then acc else acc ++ [y] | none => acc) H' b' → Nx H') :
    semT Y.K t x (wipe σ own) H0 fun σ2 H2 => wipe σ2 own = wipe σ own ∧ semB Y.blk c σ2 H2 fun k H3 =>
      if k = true then semE Y.blk true e σ2 H3 fun y H4 => ∃ (ck : Key) (S : Key → Bool) (n : Nat), y = kV ck ∧ H4 D0 = some (SetK Y.K.P Y.K.w D0 S n) ∧ n + 1 < scanBound ∧ Nx (upd H4 D0 (SetK Y.K.P Y.K.w D0 (fun j => S j || decide (j = ck)) (if S ck = true then n else n + 1))) else Nx H3 := by
  obtain ⟨env1, k, h2, ea, ec, er⟩ := lcF_ok er
  refine ⟨wipeE env own, b0, plus G D0, pr, d, env1, fun env' σ' => Slots Y.K env' σ' H0 b0 (plus G D0) ∧ env'.length ≤ σ'.length ∧ wipe σ' own = wipe σ own, ?_, ⟨sl.wipe own, by rw [wipeE_length, wipe_length]; exact ln, wipe_idem σ own own fun _ z => z⟩, it, hpr, ea, ?_⟩
  · rintro env' σ' i v d' hi ⟨s1, s2, s3⟩ hl r
    exact ⟨s1.set s2 hl r, by rw [List.length_set, List.length_set]; exact s2, by rw [wipe_set _ _ _ _ (hts i hi)]; exact s3⟩
  · rintro σ2 ⟨s1, s2, s3⟩
    have B : Bd Y.blk env1 h σ2 H0 b0 (plus G D0) := ⟨st.vs, s1, s2, cx, fun p z => by cases z⟩
    refine ⟨s3, env1, h, b0, plus G D0, B, ?_⟩
    show RunR Y.K Y.ca H0 b0 (plus G D0) (asBool (evE Y.P Y.cx false c env1 h)) _ _
    rw [ec]
    intro H3 b3 x3 vs3
    have st3 := st.on x3 vs3
    rcases er with ⟨rfl, rfl⟩ | ⟨dy, o, h4, rfl, ee, rfl⟩
    · exact nxt H3 b3 st3
    · refine ⟨env1, h2, b3, plus G D0, B.on x3 vs3, ?_⟩
      show Run Y.K Y.ca true H3 b3 (plus G D0) (evE Y.P Y.cx true e env1 h2) _ _
      rw [ee]
      intro y H4 b4 G4 x4 vs4 rs
      have x4' := rs.ext x4
      obtain ⟨vs4, ry⟩ := rs.rep vs4
      have st4 := st3.on x4' vs4
      obtain ⟨key, rfl⟩ := kD_of (hk dy rfl)
      obtain ⟨xs, S, a1, a2, a3, a4⟩ := st4.top
      refine ⟨key, S, xs.length, (by cases key with | inl i => exact (Vw.rep ry).int | inr z => exact (Vw.rep ry).str), a3, ?_, nxt _ b4 (st4.add e1 a1 a2 a3 a4)⟩
      rw [a1, List.length_map] at hz
      show xs.length + 1 < 4096
      omega
theorem scGo_cons {chk : Hp → Bool} {f : D → Hp → R (Option D × Hp)} {d : D} {ds acc : List D} {h : Hp} {β : Type} {g : List D × Hp → R β} {z : R β} (hx : ∀ d h x h', f d h ≠ .exn x h') (e : (scGo chk f (d :: ds) acc h).bind g = z) (hz : z ≠ .bad) :
    chk h = true ∧ acc.length < 4000 ∧ ∃ r, f d h = .ok r ∧ (∀ y, r.1 = some y → keyOk y = true) ∧ (scGo chk f ds (match r.1 with | some y => if acc.any fun z => eqv z y then acc else acc ++ [y] | none => acc) r.2).bind g = z := by
  unfold scGo at e
  split at e
  · rename_i c
    rw [Bool.and_eq_true, decide_eq_true_iff] at c
    refine ⟨c.1, c.2, ?_⟩
    cases ef : f d h with
    | ok r =>
      refine ⟨r, rfl, ?_⟩
      rw [ef] at e
      obtain ⟨y, h'⟩ := r
      cases y with
      | some y =>
        have e : (if keyOk y then scGo chk f ds (if acc.any fun z => eqv z y then acc else acc ++ [y]) h' else .bad).bind g = z := e
        split at e
        · rename_i hk
          exact ⟨fun w hw => by cases hw; exact hk, e⟩
        · exact absurd e.symm hz
      | none => exact ⟨(fun w hw => by cases hw), e⟩
    | exn x h' => exact absurd ef (hx d h x h')
    | bad => rw [ef] at e; exact absurd e.symm hz
  · exact absurd e.symm hz
theorem sem_sc {e c : E} {t : Tg} {w : It} {own : List Nat} (hpr : prW w = true → isN t = false) (hts : ∀ i ∈ tgSlots t, i ∈ own) (q : semE Y cap (.sc e t w c own) σ H Q) : tScK Y.K.P Y.K.w (semI Y false w) (semT Y.K t) (semB Y.blk c) (semE Y.blk true e) own σ H Q := by
  obtain ⟨env, h, b, G, B, run⟩ := q
  refine ⟨env, h, b, G, B, ?_⟩
  have run : Run Y.K Y.ca cap H b G ((evI Y.P Y.cx false w env h).bind fun r => (scGo (stays r.1 r.2.1) (lcF Y.P Y.cx e t c own env) r.2.1 [] r.2.2).bind fun q => .ok (.set q.1, false, q.2)) Q (WE Y.W σ) := run
  refine finRun.stepR run fun r H1 b1 er x1 run vs1 J jok => ?_
  obtain ⟨src, ds, h1⟩ := r
  intro D0 e1
  have B1 := B.on x1 vs1
  refine ⟨fun i m H' => m = ds.length - i ∧ i ≤ ds.length ∧ ∃ h acc b', ScSt Y.K H1 b1 G D0 h acc H' b' ∧ Run Y.K Y.ca cap H1 b1 G ((scGo (stays src ds) (lcF Y.P Y.cx e t c own env) (ds.drop i) acc h).bind fun q => .ok (.set q.1, false, q.2)) Q (WE Y.W σ), ⟨ds.length, by simp, Nat.zero_le _, h1, [], b1, ScSt.new vs1 e1, run⟩, ?_⟩
  rintro i m H' ⟨rfl, hi, h', acc, b', st, run⟩
  have rl : RlC false H1 b1 G H' b' (plus G D0) := ⟨st.ext.kept, fun _ => ⟨st.ext, fun _ z => .inl z⟩⟩
  by_cases hlt : i < ds.length
  · rw [drop_at hlt] at run
    obtain ⟨hc, hz, r, ef, hk, erest⟩ := scGo_cons (fun d h x h' => lcF_exn) rfl (run_bad run)
    obtain ⟨go, yl⟩ := (jok H' b' (plus G D0) h' i st.vs rl hc).1 ds[i] (by simp [hlt])
    refine .inr ⟨go, fun H2 => (i + 1 ≤ ds.length ∧ ∃ h acc b', ScSt Y.K H1 b1 G D0 h acc H2 b' ∧ Run Y.K Y.ca cap H1 b1 G ((scGo (stays src ds) (lcF Y.P Y.cx e t c own env) (ds.drop (i + 1)) acc h).bind fun q => .ok (.set q.1, false, q.2)) Q (WE Y.W σ)), fun H2 q => ⟨ds.length - (i + 1), by omega, rfl, q.1, q.2⟩, fun x H2 y => ?_⟩
    obtain ⟨x2, same, it⟩ := yl x H2 y
    have st2 := st.on x2 (st.vs.ext x2 same)
    refine sc_turn (B1.sl.ext vs1 st2.ext (fun _ z => .inl z)) B1.ln (B1.cx.ext st2.ext) e1 st2 it hpr hts hz ef hk fun H3 b3 st3 => ⟨hlt, r.2, _, b3, st3, ?_⟩
    rw [← erest] at run
    exact run
  · have hi' : i = ds.length := by omega
    subst hi'
    rw [List.drop_length] at run
    unfold scGo at run
    split at run
    · rename_i hc
      refine .inl ⟨(jok H' b' (plus G D0) h' ds.length st.vs rl hc).2 (Nat.le_refl _), ?_⟩
      obtain ⟨xs, S, a1, a2, a3, a4⟩ := st.top
      have nb : D0 ∉ b' := fun m => st.vs.dis D0 m (.inr rfl)
      refine run (.ref D0) H' b' G (st.ext.less fun _ z => .inl z) (st.vs.less fun _ z => .inl z) (Res.plain ?_)
      show Rep Y.K H' (wof b' G) b' (.ref D0) (.set acc)
      rw [a1]
      exact .set a3 (fun z => z.elim nb (vs1.fresh e1).2) a4 a2
    · exact False.elim run
end
end Rw

set_option maxHeartbeats 2000000
/-! L2h: calls. -/
namespace Rw
open PySem PySem.Spec PyProof.Rows L2

structure RoomK (k : Nat) (A : Around) : Prop where
  r : Room k A
  g : A.guards = some []
/-- a def's promise, where no repr is under way -/
structure FnK (P : Program) (w : World) (K : PySem.W.Frag) (mg : Str → Option Value) (base : Heap) (CX : CXT) (k : Nat) (f : Addr) (fd : FuncData) (ps : List Str) (sp : Sp) : Prop where
  len : ∀ vs H Q W', sp vs H Q W' → vs.length = ps.length
  run : ∀ (A : Around) (outer : List PySem.Env) (s : Shared) (H : HpC) (args : Args) (us : List Value) (vs : List V) (Q : VK) (W' : L2.XK), RoomK k A → Env0 P w K mg base A outer s H → BindsTo s fd args (ps.zip us) → Vals vs us → sp vs H Q W' →
    codeAny (model P w) A (.call (.ref f) args) (CR CX outer P w H s Q W') s
section
variable {X : Cx} {CX : CXT} {k : Nat} {f : Addr} {fd : FuncData} {ps ks : List Str} {sp : Sp} {x : Str} {p pos : Pos} {e : Expr} {es : List Expr} {kws : List Keyword} {t tk : TA} {W' : L2.St → L2.XK} {g : List Value → List Value → List Value} {gV : List V → List V → List V}
theorem run_fnkk {pins : List (Addr × Obj)} {σ : L2.St} {H : HpC} {s : Shared} {Q : VK} {us ws : List Value} {vs zs : List V} (F : FnK X.prog X.w X.K X.mg X.base CX k f fd ps sp) (hr : RoomK k X.A) (hb : KBinds X.K fd ps ks g gV) (hx : PassesAt CX X σ (W' σ))
    (I : Inv X pins σ H s) (r : Vals vs us) (rz : Vals zs ws) (h : sp (gV vs zs) H Q (W' σ)) : wpAny (model X.prog X.w) X.A (call (.ref f) us (ks.zip ws)) (EP X pins σ Q) X.xe s := by
  have r2 := hb.rel r rz
  have hl : (g us ws).length = ps.length := by rw [← r2.length]; exact F.len _ _ _ _ h
  refine wpAny_call (codeAny_mono (F.run X.A X.stack s H ⟨us, ks.zip ws⟩ (g us ws) (gV vs zs) Q (W' σ) hr I.env0 (hb.to s us ws I.kIn hl) r2 h) fun r s' hq => ?_)
  cases r with
  | error e => exact hx pins H s e s' I hq
  | ok fl => cases fl <;> first | exact I.after hq | exact False.elim hq
/-- every parameter is given by its place -/
def posBinds (K : PySem.W.Frag) (fd : FuncData) (ps : List Str) : Prop := KBinds K fd ps [] (fun us _ => us) fun vs _ => vs
theorem run_fnp {pins : List (Addr × Obj)} {σ : L2.St} {H : HpC} {s : Shared} {Q : VK} {us : List Value} {vs : List V} (F : FnK X.prog X.w X.K X.mg X.base CX k f fd ps sp) (hr : RoomK k X.A) (hb : posBinds X.K fd ps) (hx : PassesAt CX X σ (W' σ))
    (I : Inv X pins σ H s) (r : Vals vs us) (h : sp vs H Q (W' σ)) : wpAny (model X.prog X.w) X.A (call (.ref f) us) (EP X pins σ Q) X.xe s := run_fnkk (ws := []) F hr hb hx I r .nil h
theorem pe_callp (F : FnK X.prog X.w X.K X.mg X.base CX k f fd ps sp) (hr : RoomK k X.A) (hg : Gl X x) (hm : X.mg x = some (.ref f)) (hk : PySem.W.keepIn X.K (.ref f) = true) (hb : posBinds X.K fd ps) (hx : ∀ σ, PassesAt CX X σ (W' σ))
    (ha : PA X (e :: es) t) (hdb : (x == ("__debug__" : Str)) = false) (he : starEach (e :: es) X.env = (false, eval e X.env) :: starEach es X.env) (hpl : (backTo pos (starEach es X.env)).any (·.1) = false) :
    PE X (.Call (.Name x p) (e :: es) [] pos) (tCallS sp W' t) := by
  refine ⟨fun pins s σ H Q I h => wpAny_Call_Name_kw (ld_glob I hg hm ?_ hdb)⟩
  exact PySem.W.callWith_K (h₀ := X.base) I.ok.mod.kin hk (thn (ha.run pos pins s σ H _ I h) fun us s1 ⟨vs, H1, I1, r, q⟩ => ⟨I1.kIn, run_fnp F hr hb (hx σ) I1 r q⟩) he hpl
theorem pe_callp0 (F : FnK X.prog X.w X.K X.mg X.base CX k f fd ps sp) (hr : RoomK k X.A) (hg : Gl X x) (hm : X.mg x = some (.ref f)) (hk : PySem.W.keepIn X.K (.ref f) = true) (hb : posBinds X.K fd ps) (hx : ∀ σ, PassesAt CX X σ (W' σ))
    (hdb : (x == ("__debug__" : Str)) = false) : PE X (.Call (.Name x p) [] [] pos) (tCallS sp W' tNil) := by
  refine ⟨fun pins s σ H Q I h => wpAny_Call_Name_kw (ld_glob I hg hm ?_ hdb)⟩
  exact PySem.W.callWith_K0 I.kIn hk (run_fnp (us := []) F hr hb (hx σ) I .nil h)
def tCallSK (sp : Sp) (gV : List V → List V → List V) (W' : L2.St → L2.XK) (t tk : TA) : TE := fun σ H Q => t σ H fun vs H1 => tk σ H1 fun zs H2 => sp (gV vs zs) H2 Q (W' σ)
theorem pe_callk0 (F : FnK X.prog X.w X.K X.mg X.base CX k f fd ps sp) (hr : RoomK k X.A) (hg : Gl X x) (hm : X.mg x = some (.ref f)) (hk : PySem.W.keepIn X.K (.ref f) = true) (hb : KBinds X.K fd ps ks g gV) (hx : ∀ σ, PassesAt CX X σ (W' σ))
    (hkw : PK X kws tk) (hall : (backToKw pos (keywordEach kws X.env)).all (·.1.isSome) = true) (hks : (backToKw pos (keywordEach kws X.env)).filterMap (·.1) = ks)
    (hdb : (x == ("__debug__" : Str)) = false) (hpl : ((backTo pos (starEach [] X.env)).any (·.1) || (backToKw pos (keywordEach kws X.env)).any (·.1.isNone)) = false) :
    PE X (.Call (.Name x p) [] kws pos) (tCallSK sp gV W' tNil tk) := by
  refine ⟨fun pins s σ H Q I h => wpAny_Call_Name_kw (ld_glob I hg hm ?_ hdb)⟩
  refine PySem.W.callWith_KW0 (h₀ := X.base) I.ok.mod.kin hk hall (thn (hkw.run pos pins s σ H _ I h) fun ws s2 ⟨zs, H2, I2, rz, q2⟩ => ⟨I2.kIn, ?_⟩) hpl
  rw [hks]
  exact run_fnkk (us := []) F hr hb (hx σ) I2 .nil rz q2
theorem pe_callk1 (F : FnK X.prog X.w X.K X.mg X.base CX k f fd ps sp) (hr : RoomK k X.A) (hg : Gl X x) (hm : X.mg x = some (.ref f)) (hk : PySem.W.keepIn X.K (.ref f) = true) (hb : KBinds X.K fd ps ks g gV) (hx : ∀ σ, PassesAt CX X σ (W' σ))
    (ha : PA X (e :: es) t) (hkw : PK X kws tk) (hall : (backToKw pos (keywordEach kws X.env)).all (·.1.isSome) = true) (hks : (backToKw pos (keywordEach kws X.env)).filterMap (·.1) = ks)
    (hdb : (x == ("__debug__" : Str)) = false) (he : starEach (e :: es) X.env = (false, eval e X.env) :: starEach es X.env)
    (hpl : ((backTo pos (starEach (e :: es) X.env)).any (·.1) || (backToKw pos (keywordEach kws X.env)).any (·.1.isNone)) = false) :
    PE X (.Call (.Name x p) (e :: es) kws pos) (tCallSK sp gV W' t tk) := by
  refine ⟨fun pins s σ H Q I h => wpAny_Call_Name_kw (ld_glob I hg hm ?_ hdb)⟩
  refine PySem.W.callWith_KW (h₀ := X.base) I.ok.mod.kin hk hall (thn (ha.run pos pins s σ H _ I h) fun us s1 ⟨vs, H1, I1, r, q⟩ => ?_) hpl he
  refine thn (hkw.run pos pins s1 σ H1 _ I1 q) fun ws s2 ⟨zs, H2, I2, rz, q2⟩ => ⟨I2.kIn, ?_⟩
  rw [hks]
  exact run_fnkk F hr hb (hx σ) I2 r rz q2
end
/-! ### the promise of a def of the table -/
def spOf (K : Kx) (ca : Nat → Addr) (call : Nat → List D → Hp → RV) (f np : Nat) : Sp := fun vs H Q W' => vs.length = np ∧ ∃ ds h b G cap, VS K H b G h ∧ Reps K H (wof b G) b vs ds ∧ Run K ca cap H b G (call f ds h) Q W'
section
variable {Y : Sx} {cap : Bool} {σ : L2.St} {H : HpC} {Q : VK}
theorem es_len {es : Es} {cap : Bool} {P : Pg} {cx : Option Exn} {env : Env} : ∀ {h : Hp} {r : List D × Hp}, evEs P cx cap es env h = .ok r → ∀ {n : Nat}, (∀ {m : Nat}, m = n → True) → True := fun _ _ _ => trivial
def esLen : Es → Option Nat
  | .nil => some 0
  | .cons _ r => (esLen r).map (· + 1)
  | .star _ _ => none
theorem evEs_len {P : Pg} {cx : Option Exn} {env : Env} : ∀ {es : Es} {n : Nat} {cap : Bool} {h : Hp} {r : List D × Hp}, esLen es = some n → evEs P cx cap es env h = .ok r → r.1.length = n
  | .nil, n, cap, h, r, hl, e => by
    cases hl
    have e : R.ok ([], h) = .ok r := e
    cases e; rfl
  | .cons x t, n, cap, h, r, hl, e => by
    obtain ⟨m, h1, rfl⟩ := Option.map_eq_some_iff.mp (show (esLen t).map (· + 1) = some n from hl)
    obtain ⟨a, _, e2⟩ := bind_ok' (show (evE P cx cap x env h).bind (fun a => (evEs P cx cap t env a.2.2).bind fun q => .ok (a.1 :: q.1, q.2)) = .ok r from e)
    obtain ⟨q, e3, e4⟩ := bind_ok' e2
    cases e4
    have := evEs_len h1 e3
    simp [this]
  | .star _ _, n, cap, h, r, hl, e => by cases hl
theorem sem_call {f np : Nat} {es : Es} (hl : esLen es = some np) (q : semE Y cap (.call f es) σ H Q) : tCallS (spOf Y.K Y.ca Y.P.call f np) (WE Y.W) (semEs Y true es) σ H Q := by
  obtain ⟨env, h, b, G, B, run⟩ := q
  refine ⟨env, h, b, G, B, ?_⟩
  have run : Run Y.K Y.ca cap H b G ((evEs Y.P Y.cx true es env h).bind fun r => Y.P.call f r.1 r.2) Q (WE Y.W σ) := run
  refine finRun.stepR run fun p H' b' ep x run s vs ao => ?_
  have r := ao.reps
  exact ⟨by rw [r.length]; exact evEs_len hl ep, p.1, p.2, b', G, cap, s, r, run⟩
def permV {α : Type} (perm : List Nat) (xs : List α) : List α := perm.filterMap fun i => xs[i]?
theorem permD_reps {K : Kx} {W : Addr → Prop} {b : List Addr} {vs : List V} {ds : List D} (r : Reps K H W b vs ds) : ∀ {perm : List Nat} {es : List D}, permD ds perm = some es → Reps K H W b (permV perm vs) es ∧ es.length = perm.length
  | [], es, e => by cases e; exact ⟨.nil, rfl⟩
  | i :: perm, es, e => by
    simp only [permD] at e
    split at e
    · rename_i x ys e1 e2
      cases e
      obtain ⟨v, ev, rv⟩ := r.at e1
      obtain ⟨r2, l2⟩ := permD_reps r e2
      refine ⟨?_, by simp [l2]⟩
      unfold permV at r2 ⊢
      rw [List.filterMap_cons, ev]
      exact .cons rv r2
    · cases e
theorem sem_callk {f n : Nat} {es ks : Es} {perm : List Nat} (hl : esLen es = some n) (q : semE Y cap (.callk f es ks perm) σ H Q) : tCallSK (spOf Y.K Y.ca Y.P.call f perm.length) (fun vs zs => if vs.length = n then permV perm (vs ++ zs) else []) (WE Y.W) (semEs Y true es) (semEs Y true ks) σ H Q := by
  obtain ⟨env, h, b, G, B, run⟩ := q
  refine ⟨env, h, b, G, B, ?_⟩
  have run : Run Y.K Y.ca cap H b G ((evEs Y.P Y.cx true es env h).bind fun r => (evEs Y.P Y.cx true ks env r.2).bind fun q => (R.of (permD (r.1 ++ q.1) perm)).bind fun xs => Y.P.call f xs q.2) Q (WE Y.W σ) := run
  refine finRun.stepR run fun p H' b' ep x run s vs ao => ?_
  refine ⟨env, p.2, b', G, B.on x s, finRun.stepR run fun p2 H2 b2 ep2 x2 run s2 zs ao2 => ?_⟩
  have r := ao.reps.kept x2.kept
  obtain ⟨xs, ex, run⟩ : ∃ xs, permD (p.1 ++ p2.1) perm = some xs ∧ Run Y.K Y.ca cap H2 b2 G (Y.P.call f xs p2.2) Q (WE Y.W σ) := by
    cases ex : permD (p.1 ++ p2.1) perm with
    | none => simp only [ex] at run; exact False.elim run
    | some xs => simp only [ex] at run; exact ⟨xs, rfl, run⟩
  obtain ⟨r3, l3⟩ := permD_reps (r.app ao2.reps) ex
  have ln : vs.length = n := by rw [ao.reps.length]; exact evEs_len hl ep
  simp only [ln, if_true]
  exact ⟨by rw [r3.length, l3], xs, p2.2, b2, G, cap, s2, r3, run⟩
/-! ### what else is called -/
theorem sem_isi {t : Nat} (ht : t ≤ 5) {X : Cx} (hK : Y.K = kx X) {e : E} (q : semE Y cap (.blt (.isi [t]) (.cons e .nil)) σ H Q) : tCB (rIsi X.K) (tCons (semE Y false e) (tCons (tC (.ty (kName t))) tNil)) σ H Q := by
  obtain ⟨env, h, b, G, B, run⟩ := q
  refine ⟨env, h, b, G, B, ?_⟩
  have run : Run Y.K Y.ca cap H b G (((evE Y.P Y.cx false e env h).bind fun a => (evEs Y.P Y.cx false .nil env a.2.2).bind fun q => .ok (a.1 :: q.1, q.2)).bind fun r => evB (.isi [t]) r.1 r.2) Q (WE Y.W σ) := run
  have e2 : ∀ r : RV, ((r.bind fun a => (evEs Y.P Y.cx false .nil env a.2.2).bind fun q => (.ok (a.1 :: q.1, q.2) : R (List D × Hp))).bind fun r => evB (.isi [t]) r.1 r.2) = r.bind fun a => evB (.isi [t]) [a.1] a.2.2 := fun r => by cases r <;> rfl
  rw [e2] at run
  refine finRun.step run fun d own h' v H' b' G' e0 x vs rs run => ?_
  obtain ⟨vs, vw⟩ := rs.vw vs
  rw [hK] at vs vw run
  exact b_isi ht vs vw run
theorem sem_isiT {ts : List Nat} (ht : ∀ t ∈ ts, t ≤ 5) {X : Cx} (hK : Y.K = kx X) {e : E} {tt : TA} (htt : ∀ σ H (Q : List V → HpC → Prop), Q (ts.map fun t => V.ty (kName t)) H → tt σ H Q) (hz : ts.length ≤ 10) (q : semE Y cap (.blt (.isi ts) (.cons e .nil)) σ H Q) : tCB (rIsiT X.K) (tCons (semE Y false e) (tCons (tTup tt) tNil)) σ H Q := by
  obtain ⟨env, h, b, G, B, run⟩ := q
  refine ⟨env, h, b, G, B, ?_⟩
  have run : Run Y.K Y.ca cap H b G (((evE Y.P Y.cx false e env h).bind fun a => (evEs Y.P Y.cx false .nil env a.2.2).bind fun q => .ok (a.1 :: q.1, q.2)).bind fun r => evB (.isi ts) r.1 r.2) Q (WE Y.W σ) := run
  have e2 : ∀ r : RV, ((r.bind fun a => (evEs Y.P Y.cx false .nil env a.2.2).bind fun q => (.ok (a.1 :: q.1, q.2) : R (List D × Hp))).bind fun r => evB (.isi ts) r.1 r.2) = r.bind fun a => evB (.isi ts) [a.1] a.2.2 := fun r => by cases r <;> rfl
  rw [e2] at run
  refine finRun.step run fun d own h' v H' b' G' e0 x vs rs run => ?_
  obtain ⟨vs, vw⟩ := rs.vw vs
  refine htt σ H' _ ⟨by rw [List.length_map]; exact le_line (Nat.le_trans hz (by decide)), fun p hp => ?_⟩
  have x2 := Ext.laid (o := .tup (ts.map fun t => V.ty (kName t))) vs hp
  have vs2 := vs.laid (o := .tup (ts.map fun t => V.ty (kName t))) hp
  have vw2 := vw.ext vs x2 (fun _ z => z)
  have run2 := finRun.ext run x2
  rw [hK] at vs2 vw2 run2
  exact b_isiT ht vs2 upd_same vw2 run2
def rDef (K : Kx) (ca : Nat → Addr) (bt : Blt) : List V → List V → HpC → VK → Prop := fun xs zs H Q => ∃ d x h b G W' cap v, VS K H b G h ∧ xs = [v] ∧ zs = [.int x] ∧ Vw K H b G v d ∧ Run K ca cap H b G (evB bt [d, .int x] h) Q W'
theorem cr_maxd {X : Cx} {ca : Nat → Addr} (hc : X.calm = true) (hu : X.A.units + 80 < cLine) : CallRK X (.builtin "max") [Str.ofString "default"] (rDef (kx X) ca .max1) := by
  rintro pins s σ H xs zs us ws Q I r1 r2 ⟨d, x, h, b, G, W', cap, v, vs, rfl, rfl, vw, run⟩
  obtain ⟨u, rfl, ru⟩ := r1.one
  obtain ⟨w, rfl, rw'⟩ := r2.one
  exact b_maxd hc hu I ru rw' vs vw run
theorem cr_mind {X : Cx} {ca : Nat → Addr} (hc : X.calm = true) (hu : X.A.units + 80 < cLine) : CallRK X (.builtin "min") [Str.ofString "default"] (rDef (kx X) ca .min1) := by
  rintro pins s σ H xs zs us ws Q I r1 r2 ⟨d, x, h, b, G, W', cap, v, vs, rfl, rfl, vw, run⟩
  obtain ⟨u, rfl, ru⟩ := r1.one
  obtain ⟨w, rfl, rw'⟩ := r2.one
  exact b_mind hc hu I ru rw' vs vw run
theorem sem_def {bt : Blt} (hb : bt = .max1 ∨ bt = .min1) {a e : E} (q : semE Y cap (.blt bt (.cons a (.cons e .nil))) σ H Q) : tCKw (rDef Y.K Y.ca bt) (semEs Y false (.cons a .nil)) (semEs Y false (.cons e .nil)) σ H Q := by
  obtain ⟨env, h, b, G, B, run⟩ := q
  refine ⟨env, h, b, G, B, ?_⟩
  have run : Run Y.K Y.ca cap H b G (((evE Y.P Y.cx false a env h).bind fun a => ((evE Y.P Y.cx false e env a.2.2).bind fun c => (R.ok ([], c.2.2) : R (List D × Hp)).bind fun q => .ok (c.1 :: q.1, q.2)).bind fun q => .ok (a.1 :: q.1, q.2)).bind fun r => evB bt r.1 r.2) Q (WE Y.W σ) := run
  show RunR Y.K Y.ca H b G ((evE Y.P Y.cx false a env h).bind fun a => (R.ok ([], a.2.2) : R (List D × Hp)).bind fun q => .ok (a.1 :: q.1, q.2)) _ _
  have e3 : ∀ r : RV, (r.bind fun a => (R.ok ([], a.2.2) : R (List D × Hp)).bind fun q => (.ok (a.1 :: q.1, q.2) : R (List D × Hp))) = r.bind fun a => .ok ([a.1], a.2.2) := fun r => by cases r <;> rfl
  rw [e3]
  have e2 : ∀ r : RV, ((r.bind fun a => ((evE Y.P Y.cx false e env a.2.2).bind fun c => (R.ok ([], c.2.2) : R (List D × Hp)).bind fun q => .ok (c.1 :: q.1, q.2)).bind fun q => (.ok (a.1 :: q.1, q.2) : R (List D × Hp))).bind fun r => evB bt r.1 r.2) = (r.bind fun a => (.ok ([a.1], a.2.2) : R (List D × Hp))).bind fun p => (evE Y.P Y.cx false e env p.2).bind fun c => evB bt (p.1 ++ [c.1]) c.2.2 := fun r => by
    cases r with
    | ok a =>
      obtain ⟨d, o, h1⟩ := a
      show ((((evE Y.P Y.cx false e env h1).bind fun c => (R.ok ([c.1], c.2.2) : R (List D × Hp))).bind fun q => (.ok (d :: q.1, q.2) : R (List D × Hp))).bind fun r => evB bt r.1 r.2) = (evE Y.P Y.cx false e env h1).bind fun c => evB bt ([d] ++ [c.1]) c.2.2
      cases evE Y.P Y.cx false e env h1 <;> rfl
    | exn _ _ => rfl
    | bad => rfl
  rw [e2] at run
  refine finRun.stepR run fun p H' b' ep x run s vs ao => ?_
  have ep : ∃ d h1, p = ([d], h1) := by
    cases ea : evE Y.P Y.cx false a env h with
    | ok z => rw [ea] at ep; exact ⟨z.1, z.2.2, by cases ep; rfl⟩
    | exn _ _ => rw [ea] at ep; cases ep
    | bad => rw [ea] at ep; cases ep
  obtain ⟨d, h1, rfl⟩ := ep
  obtain ⟨v, rfl, vw⟩ := ao.vws.one
  refine ⟨env, h1, b', G, B.on x s, ?_⟩
  show RunR Y.K Y.ca H' b' G ((evE Y.P Y.cx false e env h1).bind fun a => (R.ok ([], a.2.2) : R (List D × Hp)).bind fun q => .ok (a.1 :: q.1, q.2)) _ _
  rw [e3]
  have run : Run Y.K Y.ca cap H' b' G ((evE Y.P Y.cx false e env h1).bind fun c => evB bt ([d] ++ [c.1]) c.2.2) Q (WE Y.W σ) := run
  have e4 : ∀ r : RV, (r.bind fun c => evB bt ([d] ++ [c.1]) c.2.2) = (r.bind fun a => (.ok ([a.1], a.2.2) : R (List D × Hp))).bind fun p => evB bt (d :: p.1) p.2 := fun r => by cases r <;> rfl
  rw [e4] at run
  refine finRun.stepR run fun p2 H2 b2 ep2 x2 run2 s2 vs2 ao2 => ?_
  have ep2 : ∃ d2 h2, p2 = ([d2], h2) := by
    cases ea : evE Y.P Y.cx false e env h1 with
    | ok z => rw [ea] at ep2; exact ⟨z.1, z.2.2, by cases ep2; rfl⟩
    | exn _ _ => rw [ea] at ep2; cases ep2
    | bad => rw [ea] at ep2; cases ep2
  obtain ⟨d2, h2, rfl⟩ := ep2
  obtain ⟨v2, rfl, vw2⟩ := ao2.vws.one
  have hi : ∃ i, d2 = .int i := by
    cases d2 with
    | int i => exact ⟨i, rfl⟩
    | _ => rcases hb with rfl | rfl <;> (cases d <;> exact False.elim run2)
  obtain ⟨i, rfl⟩ := hi
  cases vw2.int
  exact ⟨d, i, h2, b2, G, _, cap, v, s2, rfl, rfl, vw.ext s x2 (fun _ z => z), run2⟩
/-! ### tuple(range(n)), list(range(n)) -/
def tTupRgF (te : L2.St → HpC → (Int → Int → HpC → Prop) → Prop) : TE := fun σ H Q => te σ H fun a b H1 => RgOk a b ∧ ∀ q o, H1 q = none → o.dict = none → Q (.ref q) (upd H1 q (.frz o (.tup (rgV a b))))
theorem pe_tupRgF {X : Cx} {e : Expr} {te : L2.St → HpC → (Int → Int → HpC → Prop) → Prop} {p pos : Pos} (hc : X.calm = true) (hg : Gl X "tuple") (hm : X.mg "tuple" = none) (he : PRg X e te) (na : starEach [e] X.env = (false, eval e X.env) :: starEach [] X.env) : PE X (.Call (.Name "tuple" p) [e] [] pos) (tTupRgF te) := by
  refine ⟨fun pins s σ H Q I h => ?_⟩
  refine Call_ (ld_blt I hg hm boot_tuple (PyProof.Rows.callWith_type1 (args_cons (thn (he pins s σ H _ I h) fun x s1 ⟨r, a, b, t, u, v, H1, ex, hr, I1, ok, q⟩ => args_nil ?_) na) na))
  subst ex
  obtain ⟨b1, b2, b3, b4, b5⟩ := ok
  refine call_tuple_range (n := (b - a).toNat) (I1.ok.hd hc) hr (small_one b1 b2 b3 b4) (rangeSize_nat a b) b5 fun h' tk acc hk hi => ?_
  have I2 : Inv X pins σ H1 { s1 with heap := h', toks := tk } := I1.kept hk
  obtain ⟨o, ho, hf, J⟩ := laidT (t' := tk) I2 (vals_rg hi) (by rw [rgV_length, sizeLine_eq]; omega)
  exact ⟨.ref h'.objs.size, _, J, rfl, q _ o hf ho⟩
theorem reps_rg {K : Kx} {H : HpC} {W : Addr → Prop} {b : List Addr} (i : Int) : ∀ l : List Nat, Reps K H W b (l.map fun n : Nat => V.int (i + (n : Nat))) (l.map fun n : Nat => D.int (i + n))
  | [] => .nil
  | _ :: l => .cons (.int _) (reps_rg i l)
def okRg (K : Kx) (ca : Nat → Addr) (cap : Bool) (tup : Bool) (E : L2.XK) (Q : VK) : Int → Int → HpC → Prop := fun i j H => RgOk i j ∧ ∀ q o, H q = none → o.dict = none → Q (.ref q) (upd H q (if tup then .frz o (.tup (rgV i j)) else .lst (rgV i j)))
theorem ok_rg {K : Kx} {ca : Nat → Addr} {E : L2.XK} {tup : Bool} {i j : Int} {H : HpC} {b : List Addr} {G : Addr → Prop} {h : Hp} (s : VS K H b G h) (c : -(2 ^ 62) ≤ i ∧ i < 2 ^ 62 ∧ -(2 ^ 62) ≤ j ∧ j < 2 ^ 62)
    (run : Run K ca cap H b G (if (rng i (j - i).toNat).length ≤ maxLen then .ok (if tup then .tup (rng i (j - i).toNat) else .lst (rng i (j - i).toNat), !tup, h) else .bad) Q E) : okRg K ca cap tup E Q i j H := by
  split at run
  · rename_i hz
    have hl : (rng i (j - i).toNat).length = (j - i).toNat := by simp [rng]
    rw [hl] at hz
    have hm : maxLen ≤ 2 ^ 24 := by decide
    refine ⟨⟨c.1, c.2.1, c.2.2.1, c.2.2.2, by omega⟩, fun q o hq ho => ?_⟩
    have rr : Reps K H (wof b G) b (rgV i j) (rng i (j - i).toNat) := reps_rg i _
    cases tup with
    | true => exact Run.newT s run rr q o hq ho
    | false => exact Run.newL s run rr q hq
  · exact False.elim run
theorem sem_of1 {tup : Bool} {a : E} (q : semE Y cap (.ofIt tup (.rng1 a)) σ H Q) : tRg1 (semE Y false a) σ H (okRg Y.K Y.ca cap tup (WE Y.W σ) Q) := by
  obtain ⟨env, h, b, G, B, run⟩ := q
  refine ⟨env, h, b, G, B, ?_⟩
  have run : Run Y.K Y.ca cap H b G (((evE Y.P Y.cx false a env h).bind fun r => match r.1 with
    | .int n => if decide (-(2 ^ 62) ≤ n) && decide (n < 2 ^ 62) then (.ok (.non, rng 0 n.toNat, r.2.2) : R (D × List D × Hp)) else .bad
    | _ => .bad).bind fun r => if r.2.1.length ≤ maxLen then .ok (if tup then .tup r.2.1 else .lst r.2.1, !tup, r.2.2) else .bad) Q (WE Y.W σ) := run
  have e2 : ∀ r : RV, ((r.bind fun r => match r.1 with
    | .int n => if decide (-(2 ^ 62) ≤ n) && decide (n < 2 ^ 62) then (.ok (.non, rng 0 n.toNat, r.2.2) : R (D × List D × Hp)) else .bad
    | _ => .bad).bind fun r => if r.2.1.length ≤ maxLen then (.ok (if tup then .tup r.2.1 else .lst r.2.1, !tup, r.2.2) : RV) else .bad) = r.bind fun r => (match r.1 with
    | .int n => if decide (-(2 ^ 62) ≤ n) && decide (n < 2 ^ 62) then (.ok (.non, rng 0 n.toNat, r.2.2) : R (D × List D × Hp)) else .bad
    | _ => .bad).bind fun r => if r.2.1.length ≤ maxLen then .ok (if tup then .tup r.2.1 else .lst r.2.1, !tup, r.2.2) else .bad := fun r => by cases r <;> rfl
  rw [e2] at run
  refine finRun.step run fun d own h' v H' b' G' e0 x vs rs run => ?_
  obtain ⟨vs, sv⟩ := rs.vw vs
  cases d with
  | int n =>
    cases sv.int
    simp only at run
    split at run
    · rename_i c
      rw [Bool.and_eq_true, decide_eq_true_iff, decide_eq_true_iff] at c
      refine ⟨n, rfl, ok_rg vs (i := 0) (j := n) ⟨by decide, by decide, c.1, c.2⟩ ?_⟩
      rw [Int.sub_zero]
      exact run
    · exact False.elim run
  | _ => exact False.elim run
theorem sem_of2 {tup : Bool} {a a2 : E} (q : semE Y cap (.ofIt tup (.rng2 a a2)) σ H Q) : tRg2 (semE Y false a) (semE Y false a2) σ H (okRg Y.K Y.ca cap tup (WE Y.W σ) Q) := by
  obtain ⟨env, h, b, G, B, run⟩ := q
  refine ⟨env, h, b, G, B, ?_⟩
  have run : Run Y.K Y.ca cap H b G (((evE Y.P Y.cx false a env h).bind fun r => (evE Y.P Y.cx false a2 env r.2.2).bind fun q => match r.1, q.1 with
    | .int i, .int j => if decide (-(2 ^ 62) ≤ i) && decide (i < 2 ^ 62) && decide (-(2 ^ 62) ≤ j) && decide (j < 2 ^ 62) then (.ok (.non, rng i (j - i).toNat, q.2.2) : R (D × List D × Hp)) else .bad
    | _, _ => .bad).bind fun r => if r.2.1.length ≤ maxLen then .ok (if tup then .tup r.2.1 else .lst r.2.1, !tup, r.2.2) else .bad) Q (WE Y.W σ) := run
  have e2 : ∀ (f : D × Bool × Hp → RV) (g : D × Bool × Hp → D × Bool × Hp → R (D × List D × Hp)) (k : D × List D × Hp → RV) (r : RV), ((r.bind fun r => (f r).bind (g r)).bind k) = r.bind fun r => (f r).bind fun q => (g r q).bind k := fun f g k r => by
    cases r with
    | ok r => show ((f r).bind (g r)).bind k = _; show _ = (f r).bind fun q => (g r q).bind k; cases f r <;> rfl
    | exn _ _ => rfl
    | bad => rfl
  rw [e2 (fun r => evE Y.P Y.cx false a2 env r.2.2)] at run
  refine finRun.step run fun d own h' v H' b' G' e0 x vs rs run => ?_
  obtain ⟨vs, sv⟩ := rs.vw vs
  refine ⟨env, h', b', G, B.on x vs, ?_⟩
  refine finRun.step run fun d2 own2 h2 v2 H2 b2 G2 e2 x2 vs2 rs2 run => ?_
  obtain ⟨vs2, sv2⟩ := rs2.vw vs2
  cases d with
  | int i =>
    cases sv.int
    cases d2 with
    | int j =>
      cases sv2.int
      simp only at run
      split at run
      · rename_i c
        rw [Bool.and_eq_true, Bool.and_eq_true, Bool.and_eq_true, decide_eq_true_iff, decide_eq_true_iff, decide_eq_true_iff, decide_eq_true_iff] at c
        exact ⟨i, j, rfl, rfl, ok_rg vs2 ⟨c.1.1.1, c.1.1.2, c.1.2, c.2⟩ run⟩
      · exact False.elim run
    | _ => exact False.elim run
  | _ => exact False.elim run
/-! ### a field of the caught error -/
theorem sem_fld {X : Cx} (hK : Y.K = kx X) {i : Nat} {a C : Addr} {f : Str} {te : TE} (hv : Y.exv = some (i, .ref a)) (hC : ∀ e, Y.cx = some e → Y.ca e.cls = C) (q : semE Y cap (.fld f) σ H Q) : tXf a (.ref C) (some Y.dd) C f (tVar i) σ H Q := by
  obtain ⟨env, h, b, G, B, run⟩ := q
  refine ⟨.ref a, B.ev _ hv, rfl, rfl, Y.dd, ?_⟩
  have run : Run Y.K Y.ca cap H b G (match Y.cx with
    | some e => (R.of (e.fs.lookup f)).bind fun d => .ok (d, false, h)
    | none => .bad) Q (WE Y.W σ) := run
  split at run
  · rename_i e he
    obtain ⟨fs, h1, h2, h3⟩ := B.cx e he
    cases el : e.fs.lookup f with
    | none => rw [el] at run; exact False.elim run
    | some d =>
      rw [el] at run
      obtain ⟨v, z1, z2⟩ := h3 f d el
      exact ⟨fs, v, rfl, h1, z1, run.val B.vs z2⟩
  · exact False.elim run
end
end Rw

set_option maxHeartbeats 2000000
/-! L3a: states behind statements. -/
namespace Rw
open PySem PySem.Spec PyProof.Rows L2

/-- how a later state stands to an earlier one; F: what the caller owns -/
structure SExt (F : Addr → Prop) (H : HpC) (b : List Addr) (G : Addr → Prop) (H' : HpC) (b' : List Addr) (G' : Addr → Prop) : Prop where
  keep : ∀ a o, H a = some o → a ∉ b → (G a → F a) → H' a = some o ∧ a ∉ b' ∧ (G' a → F a)
  pre : ∀ (n : Nat) (a : Addr), b[n]? = some a → b'[n]? = some a
  new : ∀ a, G' a → G a ∨ H a = none
  there : ∀ a, H a ≠ none → H' a ≠ none
section
variable {F : Addr → Prop} {H H' H2 : HpC} {b b' b2 : List Addr} {G G' G2 : Addr → Prop}
theorem SExt.refl : SExt F H b G H b G := ⟨fun _ _ e n z => ⟨e, n, z⟩, fun _ _ z => z, fun _ z => .inl z, fun _ z => z⟩
theorem SExt.trans (x : SExt F H b G H' b' G') (y : SExt F H' b' G' H2 b2 G2) : SExt F H b G H2 b2 G2 :=
  ⟨fun a o e n z => by
    obtain ⟨x1, x2, x3⟩ := x.keep a o e n z
    exact y.keep a o x1 x2 x3, fun n a e => y.pre n a (x.pre n a e), fun a z => (y.new a z).elim (x.new a) fun z => by
    cases q : H a with
    | none => exact .inr rfl
    | some o => exact absurd z (x.there a (by rw [q]; exact fun z => nomatch z)), fun a z => y.there a (x.there a z)⟩
theorem SExt.of (x : Ext H b G H' b' G') : SExt F H b G H' b' G' :=
  ⟨fun a o e n z => ⟨(x.keep a o e n).1, (x.keep a o e n).2, fun w => (x.new a w).elim z fun w => by rw [e] at w; cases w⟩, x.pre, x.new, x.there⟩
theorem SExt.kept (sub : ∀ a, F a → G a) (x : SExt F H b G H' b' G') : Kept H (wof b G) b H' (wof b' G') b' :=
  ⟨fun a o e n => by
    obtain ⟨x1, x2, x3⟩ := x.keep a o e (fun z => n (.inl z)) (fun z => absurd (.inr z) n)
    exact ⟨x1, fun z => z.elim x2 fun z => n (.inr (sub a (x3 z)))⟩, x.pre⟩
theorem SExt.less (h : ∀ a, G' a → G a) : SExt F H b G H b G' := ⟨fun _ _ e n z => ⟨e, n, fun w => z (h _ w)⟩, fun _ _ z => z, fun a z => .inl (h a z), fun _ z => z⟩
end
structure StB (Y : Sx) (F : Addr → Prop) (env : Env) (h : Hp) (σ : L2.St) (H : HpC) (b : List Addr) (G : Addr → Prop) : Prop where
  bd : Bd Y env h σ H b G
  sub : ∀ a, F a → G a
  own : ∀ (i : Nat) (d : D), env[i]? = some (some ⟨d, true⟩) → ∃ a, σ[i]? = some (some (.ref a)) ∧ G a ∧ ¬ F a
  dis : ∀ (i j : Nat) (d e : D), i ≠ j → env[i]? = some (some ⟨d, true⟩) → env[j]? = some (some ⟨e, true⟩) → σ[i]? ≠ σ[j]?
def RtOk (K : Kx) (F : Addr → Prop) (H : HpC) (b : List Addr) (G : Addr → Prop) (v : V) (d : D) (own : Bool) : Prop :=
  if own = true then ∃ a, v = .ref a ∧ G a ∧ ¬ F a ∧ TopAt K H (wof b G) b a d else Rep K H (wof b G) b v d
def SRun (Y : Sx) (F : Addr → Prop) (Z : Ends) (H : HpC) (b : List Addr) (G : Addr → Prop) (r : SR) : Prop :=
  match r with
  | .nx env h => ∀ σ' H' b' G', SExt F H b G H' b' G' → StB Y F env h σ' H' b' G' → Z.nx σ' H'
  | .bk env h => ∀ σ' H' b' G', SExt F H b G H' b' G' → StB Y F env h σ' H' b' G' → Z.bk σ' H'
  | .ct env h => ∀ σ' H' b' G', SExt F H b G H' b' G' → StB Y F env h σ' H' b' G' → Z.ct σ' H'
  | .rt d own h => ∀ v H' b' G', SExt F H b G H' b' G' → VS Y.K H' b' G' h → (∀ a, F a → G' a) → RtOk Y.K F H' b' G' v d own → Z.rt v H'
  | .exn x env h => ∀ dd σ' H' b' G', SExt F H b G H' b' G' → StB Y F env h σ' H' b' G' → XAt Y.K H' b' G' dd x → Y.W (.ref (Y.ca x.cls)) (some dd) σ' H'
  | .bad => False
def semS (Y : Sx) (s : S) : TS := fun Z σ H => ∃ env h b G F, StB Y F env h σ H b G ∧ SRun Y F Z H b G (evS Y.P Y.cx s env h)
def semSs (Y : Sx) (s : Ss) : TS := fun Z σ H => ∃ env h b G F, StB Y F env h σ H b G ∧ SRun Y F Z H b G (evSs Y.P Y.cx s env h)
section
variable {Y : Sx} {F : Addr → Prop} {Z : Ends} {env : Env} {h h' : Hp} {σ : L2.St} {H H' H2 : HpC} {b b' b2 : List Addr} {G G' G2 : Addr → Prop}
theorem SRun.ext {r : SR} (x : SRun Y F Z H b G r) (e : SExt F H b G H' b' G') : SRun Y F Z H' b' G' r := by
  cases r with
  | nx _ _ => exact fun σ1 H1 b1 G1 e1 s1 => x σ1 H1 b1 G1 (e.trans e1) s1
  | bk _ _ => exact fun σ1 H1 b1 G1 e1 s1 => x σ1 H1 b1 G1 (e.trans e1) s1
  | ct _ _ => exact fun σ1 H1 b1 G1 e1 s1 => x σ1 H1 b1 G1 (e.trans e1) s1
  | rt _ _ _ => exact fun σ1 H1 b1 G1 e1 s1 => x σ1 H1 b1 G1 (e.trans e1) s1
  | exn _ _ _ => exact fun dd σ1 H1 b1 G1 e1 s1 => x dd σ1 H1 b1 G1 (e.trans e1) s1
  | bad => exact x
theorem StB.ext (B : StB Y F env h σ H b G) (x : Ext H b G H' b' G') (hG : ∀ a, G a → G' a) (v : VS Y.K H' b' G' h') : StB Y F env h' σ H' b' G' :=
  ⟨B.bd.ext x hG v, fun a z => hG a (B.sub a z), fun i d e => (B.own i d e).elim fun a z => ⟨a, z.1, hG a z.2.1, z.2.2⟩, B.dis⟩
theorem StB.on (B : StB Y F env h σ H b G) (x : Ext H b G H' b' G) (v : VS Y.K H' b' G h') : StB Y F env h' σ H' b' G := B.ext x (fun _ z => z) v
/-- an expression in a statement -/
theorem stS {cap : Bool} {r : RV} {f : D × Bool × Hp → SR} {Q : VK} (B : StB Y F env h σ H b G) (x : SRun Y F Z H b G (r.st env f))
    (hq : ∀ d own h' v H' b' G', r = .ok (d, own, h') → Ext H b G H' b' G' → Ext H b G H' b' G → VS Y.K H' b' G' h' → Res Y.K cap H' b' G v d own G' → SRun Y F Z H b G (f (d, own, h')) → Q v H') : Run Y.K Y.ca cap H b G r Q (WE Y.W σ) := by
  cases r with
  | ok p =>
    obtain ⟨d, own, h'⟩ := p
    exact fun v H' b' G' e s r => hq d own h' v H' b' G' rfl e (r.ext e) s r x
  | exn y h' => exact fun dd H' b' e s xa => x dd σ H' b' G (SExt.of e) (B.on e s) xa
  | bad => exact x
theorem stR {α : Type} {r : R α} {f : α → SR} {ok : α → HpC → List Addr → Prop} (B : StB Y F env h σ H b G) (x : SRun Y F Z H b G (r.st env f))
    (hq : ∀ a H' b', r = .ok a → Ext H b G H' b' G → SRun Y F Z H b G (f a) → ok a H' b') : RunR Y.K Y.ca H b G r ok (WE Y.W σ) := by
  cases r with
  | ok p => exact fun H' b' e => hq p H' b' rfl e x
  | exn y h' => exact fun dd H' b' e s xa => x dd σ H' b' G (SExt.of e) (B.on e s) xa
  | bad => exact x
/-- a slot is stored -/
theorem StB.put (B : StB Y F env h σ H b G) {i : Nat} {v : V} {d : D} {own : Bool} (hi : i < env.length) (hx : ∀ p, Y.exv = some p → p.1 ≠ i) (so : SlotOk Y.K H b G v ⟨d, own⟩)
    (hown : own = true → ∀ a, v = .ref a → ¬ F a ∧ ∀ (j : Nat) (e : D), j ≠ i → env[j]? = some (some ⟨e, true⟩) → σ[j]? ≠ some (some (.ref a))) : StB Y F (env.set i (some ⟨d, own⟩)) h (σ.set i (some v)) H b G := by
  have hl : i < σ.length := Nat.lt_of_lt_of_le hi B.bd.ln
  have other : ∀ (j : Nat) (e : D), j ≠ i → (env.set i (some ⟨d, own⟩))[j]? = some (some ⟨e, true⟩) → env[j]? = some (some ⟨e, true⟩) := fun j e n z => by rwa [List.getElem?_set_ne (Ne.symm n)] at z
  have self : ∀ e : D, (env.set i (some ⟨d, own⟩))[i]? = some (some ⟨e, true⟩) → own = true := fun e z => by
    rw [List.getElem?_set_self hi] at z
    cases z; rfl
  have top : own = true → ∃ a, v = .ref a ∧ G a := fun ho => by
    unfold SlotOk at so
    rw [if_pos (show (Sl.mk d own).own = true from ho)] at so
    obtain ⟨a, e1, e2, _⟩ := so
    exact ⟨a, e1, e2⟩
  refine ⟨⟨B.bd.vs, fun j s e => ?_, by rw [List.length_set, List.length_set]; exact B.bd.ln, B.bd.cx, fun p hp => by rw [List.getElem?_set_ne (Ne.symm (hx p hp))]; exact B.bd.ev p hp⟩, B.sub, fun j e z => ?_, fun j k e f n z1 z2 => ?_⟩
  · by_cases y : j = i
    · subst y
      rw [List.getElem?_set_self hi] at e
      cases e
      exact ⟨v, by rw [List.getElem?_set_self hl], so⟩
    · rw [List.getElem?_set_ne (Ne.symm y)] at e ⊢
      exact B.bd.sl j s e
  · by_cases y : j = i
    · subst y
      have ho := self e z
      obtain ⟨a, rfl, ga⟩ := top ho
      exact ⟨a, by rw [List.getElem?_set_self hl], ga, (hown ho a rfl).1⟩
    · rw [List.getElem?_set_ne (Ne.symm y)]
      exact B.own j e (other j e y z)
  · by_cases y : j = i
    · subst y
      have ho := self e z1
      obtain ⟨a, rfl, ga⟩ := top ho
      rw [List.getElem?_set_self hl, List.getElem?_set_ne n]
      exact fun q => (hown ho a rfl).2 k f (Ne.symm n) (other k f (Ne.symm n) z2) q.symm
    · by_cases w : k = i
      · subst w
        have ho := self f z2
        obtain ⟨a, rfl, ga⟩ := top ho
        rw [List.getElem?_set_self hl, List.getElem?_set_ne (Ne.symm y)]
        exact (hown ho a rfl).2 j e y (other j e y z1)
      · rw [List.getElem?_set_ne (Ne.symm y), List.getElem?_set_ne (Ne.symm w)]
        exact B.dis j k e f n (other j e y z1) (other k f w z2)
theorem StB.putR (B : StB Y F env h σ H b G) {i : Nat} {v : V} {d : D} (hi : i < env.length) (hx : ∀ p, Y.exv = some p → p.1 ≠ i) (r : Rep Y.K H (wof b G) b v d) : StB Y F (env.set i (some ⟨d, false⟩)) h (σ.set i (some v)) H b G :=
  B.put hi hx (by simpa [SlotOk] using r) (fun z => by cases z)
/-- no slot has a place that nobody owned -/
theorem StB.no (B : StB Y F env h σ H b G) {a : Addr} (n : ¬ G a) (j : Nat) (e : D) (z : env[j]? = some (some ⟨e, true⟩)) : σ[j]? ≠ some (some (.ref a)) := fun q => by
  obtain ⟨c, q2, gc, _⟩ := B.own j e z
  rw [q] at q2
  cases q2
  exact n gc
/-- a result is stored -/
theorem StB.store (B : StB Y F env h σ H b G) (x : Ext H b G H' b' G') (v : VS Y.K H' b' G' h') {i : Nat} {u : V} {d : D} {own : Bool} (rs : Res Y.K true H' b' G u d own G') (hi : i < env.length) (hx : ∀ p, Y.exv = some p → p.1 ≠ i) :
    StB Y F (env.set i (some ⟨d, own⟩)) h' (σ.set i (some u)) H' b' G' := by
  unfold Res at rs
  split at rs
  · rename_i ho
    obtain ⟨p, e1, e2, e3, t⟩ := rs
    subst e3
    have B2 := B.ext x (fun _ z => .inl z) v
    refine B2.put hi hx ?_ fun _ a ea => ?_
    · unfold SlotOk
      rw [if_pos (show (Sl.mk d own).own = true from ho)]
      exact ⟨p, e1, .inr rfl, t⟩
    · rw [e1] at ea
      cases ea
      exact ⟨fun z => e2 (B.sub _ z), fun j e _ z => B.no e2 j e z⟩
  · rename_i ho
    obtain ⟨e1, r⟩ := rs
    subst e1
    have B2 := B.ext x (fun _ z => z) v
    have ho : own = false := by simpa using ho
    subst ho
    exact B2.putR hi hx (by simpa using r)
/-- own things are given up -/
theorem StB.frz1 (B : StB Y F env h σ H b G) {i : Nat} {d : D} {own : Bool} (e : env[i]? = some (some ⟨d, own⟩)) : ∃ G', (∀ a, G' a → G a) ∧ StB Y F (env.set i (some ⟨d, false⟩)) h σ H b G' := by
  have hi : i < env.length := (List.getElem?_eq_some_iff.mp e).1
  cases own with
  | false =>
    refine ⟨G, fun _ z => z, ?_⟩
    have e2 : env.set i (some ⟨d, false⟩) = env := by
      apply List.ext_getElem?
      intro n
      by_cases y : n = i
      · subst y; rw [List.getElem?_set_self hi, e]
      · rw [List.getElem?_set_ne (Ne.symm y)]
    rw [e2]
    exact B
  | true =>
    obtain ⟨a, ea, ga, nf⟩ := B.own i d e
    have less : ∀ x, (G x ∧ x ≠ a) → G x := fun _ z => z.1
    have kp : Kept H (wof b G) b H (wof b fun x => G x ∧ x ≠ a) b := Kept.lessG less
    refine ⟨fun x => G x ∧ x ≠ a, less, ⟨B.bd.vs.less less, fun j s z => ?_, by rw [List.length_set]; exact B.bd.ln, B.bd.cx.ext (Ext.less Ext.refl less), B.bd.ev⟩, fun x z => ⟨B.sub x z, fun y => nf (y ▸ z)⟩, fun j e2 z => ?_, fun j k e1 e2 n z1 z2 => ?_⟩
    · by_cases y : j = i
      · subst y
        rw [List.getElem?_set_self hi] at z
        cases z
        refine ⟨.ref a, ea, ?_⟩
        obtain ⟨v, e3, so⟩ := B.bd.sl j _ e
        rw [ea] at e3
        cases e3
        unfold SlotOk at so ⊢
        rw [if_pos rfl] at so
        rw [if_neg (by simp)]
        obtain ⟨c, e4, gc, t⟩ := so
        cases e4
        exact (t.kept kp rfl).rep fun z => z.elim (fun m => B.bd.vs.dis a m ga) fun z => z.2 rfl
      · rw [List.getElem?_set_ne (Ne.symm y)] at z
        obtain ⟨v, e3, so⟩ := B.bd.sl j _ z
        refine ⟨v, e3, ?_⟩
        unfold SlotOk at so ⊢
        split
        · rename_i ho
          rw [if_pos ho] at so
          obtain ⟨c, e4, gc, t⟩ := so
          refine ⟨c, e4, ⟨gc, fun q => ?_⟩, t.kept kp rfl⟩
          subst q
          obtain ⟨sd, so'⟩ := s
          have ho : so' = true := ho
          subst ho
          exact B.dis j i _ _ y z e (by rw [e3, e4, ea])
        · rename_i ho
          rw [if_neg ho] at so
          exact so.kept kp
    · have y : j ≠ i := fun y => by
        subst y
        rw [List.getElem?_set_self hi] at z
        cases z
      rw [List.getElem?_set_ne (Ne.symm y)] at z
      obtain ⟨c, q1, q2, q3⟩ := B.own j e2 z
      refine ⟨c, q1, ⟨q2, fun q => ?_⟩, q3⟩
      subst q
      exact B.dis j i _ _ y z e (by rw [q1, ea])
    · have y : j ≠ i := fun y => by
        subst y
        rw [List.getElem?_set_self hi] at z1
        cases z1
      have w : k ≠ i := fun y => by
        subst y
        rw [List.getElem?_set_self hi] at z2
        cases z2
      rw [List.getElem?_set_ne (Ne.symm y)] at z1
      rw [List.getElem?_set_ne (Ne.symm w)] at z2
      exact B.dis j k e1 e2 n z1 z2
theorem StB.frz : ∀ {is : List Nat} {env : Env} {G : Addr → Prop}, StB Y F env h σ H b G → ∃ G', (∀ a, G' a → G a) ∧ StB Y F (frzE env is) h σ H b G'
  | [], env, G, B => ⟨G, fun _ z => z, B⟩
  | i :: is, env, G, B => by
    simp only [frzE]
    split
    · rename_i d own e
      obtain ⟨G1, l1, B1⟩ := B.frz1 e
      obtain ⟨G2, l2, B2⟩ := StB.frz (is := is) B1
      exact ⟨G2, fun a z => l1 a (l2 a z), B2⟩
    · exact StB.frz B
end
end Rw

set_option maxHeartbeats 2000000
/-! L3b: statements. -/
namespace Rw
open PySem PySem.Spec PyProof.Rows L2

section
variable {Y : Sx} {F : Addr → Prop} {Z : Ends} {env : Env} {h h' : Hp} {σ : L2.St} {H H' H2 : HpC} {b b' b2 : List Addr} {G G' G2 : Addr → Prop}
/-- what a slot owns is written -/
theorem StB.wr (B : StB Y F env h σ H b G) {i : Nat} {d d' : D} {a : Addr} {o : HO} (e : env[i]? = some (some ⟨d, true⟩)) (ea : σ[i]? = some (some (.ref a))) (x : Holds Y.K H (wof b G) b o d') :
    SExt F H b G (upd H a o) b G ∧ StB Y F (env.set i (some ⟨d', true⟩)) h σ (upd H a o) b G := by
  have hi : i < env.length := (List.getElem?_eq_some_iff.mp e).1
  obtain ⟨a', ea', ga, nf⟩ := B.own i d e
  rw [ea] at ea'
  cases ea'
  have w : wof b G a := .inr ga
  have nb : a ∉ b := fun m => B.bd.vs.dis a m ga
  have kp : Kept H (wof b G) b (upd H a o) (wof b G) b := Kept.put w
  have live : ∀ p, H p ≠ none → upd H a o p ≠ none := fun p z => by
    by_cases y : p = a
    · rw [y, upd_same]; exact fun z => nomatch z
    · rw [upd_ne y]; exact z
  have sx : SExt F H b G (upd H a o) b G := ⟨fun p u q n z => ⟨by
    rw [upd_ne fun y => nf (by rw [← y]; exact z (by rw [y]; exact ga))]; exact q, n, z⟩, fun _ _ z => z, fun _ z => .inl z, live⟩
  have idx : σ.set i (some (.ref a)) = σ := by
    apply List.ext_getElem?
    intro n
    by_cases y : n = i
    · subst y; rw [List.getElem?_set_self (List.getElem?_eq_some_iff.mp ea).1, ea]
    · rw [List.getElem?_set_ne (Ne.symm y)]
  refine ⟨sx, ⟨⟨⟨B.bd.vs.nd, B.bd.vs.dis, ⟨B.bd.vs.hp.len, fun n c p e1 e2 => (B.bd.vs.hp.at_ n c p e1 e2).kept kp (upd_ne fun y => nb (by rw [← y]; exact List.mem_of_getElem? e2))⟩, fun p z => live p (B.bd.vs.live p z)⟩, fun j s z => ?_, by rw [List.length_set]; exact B.bd.ln, fun x hx => ?_, B.bd.ev⟩, B.sub, fun j e2 z => ?_, fun j k e1 e2 n z1 z2 => ?_⟩⟩
  · by_cases y : j = i
    · subst y
      rw [List.getElem?_set_self hi] at z
      cases z
      refine ⟨.ref a, ea, ?_⟩
      unfold SlotOk
      rw [if_pos rfl]
      exact ⟨a, rfl, ga, x.put w⟩
    · rw [List.getElem?_set_ne (Ne.symm y)] at z
      obtain ⟨v, e3, so⟩ := B.bd.sl j _ z
      refine ⟨v, e3, ?_⟩
      unfold SlotOk at so ⊢
      split
      · rename_i ho
        rw [if_pos ho] at so
        obtain ⟨c, e4, gc, t⟩ := so
        refine ⟨c, e4, gc, t.kept kp (upd_ne fun q => ?_)⟩
        subst q
        obtain ⟨sd, so'⟩ := s
        have ho : so' = true := ho
        subst ho
        exact B.dis j i _ _ y z e (by rw [e3, e4, ea])
      · rename_i ho
        rw [if_neg ho] at so
        exact so.kept kp
  · obtain ⟨fs, h1, h2, h3⟩ := B.bd.cx x hx
    refine ⟨fs, by rw [upd_ne fun y => h2 (by rw [y]; exact w)]; exact h1, h2, fun f d z => ?_⟩
    obtain ⟨v, z1, z2⟩ := h3 f d z
    exact ⟨v, z1, z2.kept kp⟩
  · by_cases y : j = i
    · subst y; exact ⟨a, ea, ga, nf⟩
    · rw [List.getElem?_set_ne (Ne.symm y)] at z
      exact B.own j e2 z
  · have back : ∀ (l : Nat) (q : D), (env.set i (some ⟨d', true⟩))[l]? = some (some ⟨q, true⟩) → ∃ q', env[l]? = some (some ⟨q', true⟩) := fun l q z => by
      by_cases y : l = i
      · subst y; exact ⟨d, e⟩
      · rw [List.getElem?_set_ne (Ne.symm y)] at z; exact ⟨q, z⟩
    obtain ⟨q1, y1⟩ := back j e1 z1
    obtain ⟨q2, y2⟩ := back k e2 z2
    exact B.dis j k q1 q2 n y1 y2
theorem nx_same (B : StB Y F env h σ H b G) (x : SRun Y F Z H b G (.nx env h)) : Z.nx σ H := x σ H b G SExt.refl B
theorem ownAt_some {i : Nat} {c : Cont} (e : ownAt env i = some c) : env[i]? = some (some ⟨c.d, true⟩) := by
  unfold ownAt at e
  split at e
  · rename_i xs q; cases e; exact q
  · rename_i ks vs q; cases e; exact q
  · cases e
theorem own_slot (B : StB Y F env h σ H b G) {i : Nat} {c : Cont} (e : ownAt env i = some c) : ∃ a, σ[i]? = some (some (.ref a)) ∧ G a ∧ ¬ F a ∧ TopAt Y.K H (wof b G) b a c.d := by
  have e1 := ownAt_some e
  obtain ⟨a, ea, ga, nf⟩ := B.own i c.d e1
  obtain ⟨v, e2, so⟩ := B.bd.sl i _ e1
  unfold SlotOk at so
  rw [if_pos rfl] at so
  obtain ⟨c2, e3, _, t⟩ := so
  rw [ea] at e2
  cases e2
  cases e3
  exact ⟨a, ea, ga, nf, t⟩
theorem sem_expr {e : E} (q : semS Y (.expr e) Z σ H) : tDrop (semE Y false e) Z σ H := by
  obtain ⟨env, h, b, G, F, B, run⟩ := q
  refine ⟨env, h, b, G, B.bd, stS B (show SRun Y F Z H b G ((evE Y.P Y.cx false e env h).st env fun r => .nx env r.2.2) from run) fun d own h' v H' b' G' e0 x x2 vs rs run => ?_⟩
  have B2 := B.on x2 (rs.vw vs).1
  exact nx_same B2 (run.ext (SExt.of x2))
theorem TopAt.ext {K : Kx} {a : Addr} {d : D} {h : Hp} (s : VS K H b G h) (ga : G a) (x : Ext H b G H' b' G) (t : TopAt K H (wof b G) b a d) : TopAt K H' (wof b' G) b' a d := by
  refine t.kept x.kept ?_
  cases z : H a with
  | none => exact absurd z (s.live a ga)
  | some o => exact (x.keep a o z fun m => s.dis a m ga).1
theorem tMth_to {X : Cx} {name : Str} {t t' : TE} {ta : TA} {Q : VK} (i : ∀ Q, t σ H Q → t' σ H Q) (q : tMth X name t ta σ H Q) : tMth X name t' ta σ H Q := i _ q
theorem sem_mutE {X : Cx} (hK : Y.K = kx X) (hu : X.A.units + 80 < cLine) {m : Mt} {r : E} {es : Es} (env : Env) (h : Hp) (b : List Addr) (G F : Addr → Prop) (B : StB Y F env h σ H b G)
    (run : SRun Y F Z H b G ((evE Y.P Y.cx false (.mth m r es) env h).st env fun r => .nx env r.2.2)) : tDrop (tMth X (mtName m) (semE Y false r) (semEs Y m.keeps es)) Z σ H := by
  refine sem_mth (cap := false) hK hu ⟨env, h, b, G, B.bd, stS B run fun d own h' v H' b' G' e0 x x2 vs rs run => ?_⟩
  exact nx_same (B.on x2 (rs.vw vs).1) (run.ext (SExt.of x2))
theorem sem_mut {X : Cx} (hK : Y.K = kx X) (hu : X.A.units + 80 < cLine) {m : Mt} {r : E} {es : Es} (hr : rootVar r = none) (q : semS Y (.mut m r es) Z σ H) : tDrop (tMth X (mtName m) (semE Y false r) (semEs Y m.keeps es)) Z σ H := by
  obtain ⟨env, h, b, G, F, B, run⟩ := q
  unfold evS at run
  rw [hr] at run
  exact sem_mutE hK hu env h b G F B run
theorem sem_mutV {X : Cx} (hK : Y.K = kx X) (hu : X.A.units + 80 < cLine) {m : Mt} {i : Nat} {es : Es} (q : semS Y (.mut m (.var i) es) Z σ H) : tDrop (tMth X (mtName m) (tVar i) (semEs Y m.keeps es)) Z σ H := by
  obtain ⟨env, h, b, G, F, B, run⟩ := q
  unfold evS at run
  have er : rootVar (.var i) = some i := rfl
  simp only [er] at run
  cases eo : ownAt env i with
  | none =>
    simp only [eo] at run
    exact tMth_to (fun Q => sem_var) (sem_mutE hK hu env h b G F B run)
  | some c =>
    simp only [eo] at run
    obtain ⟨a, ea, ga, nf, t⟩ := own_slot B eo
    split at run
    · rename_i ok
      have hT : contT c = kName (contN c) := by cases c <;> rfl
      refine ⟨.ref a, ea, kName (contN c), idOf m (contN c), mf_all ok, ?_, env, h, b, G, B.bd, stR B run fun p H' b' ep x run vs ws ao => ?_⟩
      · rw [← hT]
        rw [hK] at t
        exact tys_top t
      · split at run
        · rename_i d' c' em
          refine ⟨rMut Y.K m, ?_, a, b', G, c, p.1, d', c', rfl, t.ext B.bd.vs ga x, ao, em, fun v o' ho rv => ?_⟩
          · have hid : idOf m (contN c) = mutId m := by cases m <;> first | rfl | (simp [evMut] at em; done) | (cases c <;> simp [evMut] at em)
            rw [hid, hK]
            exact mt_mut m
          · obtain ⟨sx, B2⟩ := (B.on x vs).wr (d' := c'.d) (ownAt_some eo) ea ho
            exact run σ _ b' G ((SExt.of x).trans sx) B2
        · exact False.elim run
    · exact False.elim run
/-! ### stores -/
theorem sem_asgN {i : Nat} {e : E} (hx : ∀ p, Y.exv = some p → p.1 ≠ i) (q : semS Y (.asg (.n i) e) Z σ H) : tAsg (semE Y true e) (gName i) Z σ H := by
  obtain ⟨env, h, b, G, F, B, run⟩ := q
  refine ⟨env, h, b, G, B.bd, stS B (show SRun Y F Z H b G ((evE Y.P Y.cx true e env h).st env fun r => if i < env.length then .nx (env.set i (some ⟨r.1, r.2.1⟩)) r.2.2 else .bad) from run) fun d own h' v H' b' G' e0 x x2 vs rs run => ?_⟩
  split at run
  · rename_i hi
    exact run _ H' b' G' (SExt.of x) (B.store x vs rs hi hx)
  · exact False.elim run
theorem sem_asgT {t : Tg} {e : E} (ht : isN t = false) (hx : ∀ p, Y.exv = some p → p.1 ∉ tgSlots t) (q : semS Y (.asg t e) Z σ H) : tAsg (semE Y true e) (semT Y.K t) Z σ H := by
  obtain ⟨env, h, b, G, F, B, run⟩ := q
  have run : SRun Y F Z H b G ((evE Y.P Y.cx true e env h).st env fun r => match asgT t r.1 env with
      | some env1 => .nx env1 r.2.2
      | none => .bad) := by
    cases t with
    | n i => cases ht
    | t ts => exact run
  refine ⟨env, h, b, G, B.bd, stS B run fun d own h' v H' b' G' e0 x x2 vs rs run => ?_⟩
  obtain ⟨vs, r⟩ := rs.rep vs
  split at run
  · rename_i env1 ea
    refine ⟨env, b', G, false, d, env1, fun env' σ' => StB Y F env' h' σ' H' b' G, fun env' σ' i v d hi B' hl rr => B'.putR hl (fun p hp z => hx p hp (z ▸ hi)) rr, B.on x2 vs, by simpa [ItemOk] using r, (fun z => by cases z), ea, fun σ' B' => run σ' H' b' G (SExt.of x2) B'⟩
  · exact False.elim run
theorem sem_par {i j : Nat} {e1 e2 : E} (hij : i ≠ j) (hi : ∀ p, Y.exv = some p → p.1 ≠ i) (hj : ∀ p, Y.exv = some p → p.1 ≠ j) (q : semS Y (.par [i, j] (.cons e1 (.cons e2 .nil))) Z σ H) : tPar i j (tCons (semE Y true e1) (tCons (semE Y true e2) tNil)) Z σ H := by
  obtain ⟨env, h, b, G, F, B, run⟩ := q
  have run : SRun Y F Z H b G (((evE Y.P Y.cx true e1 env h).bind fun a => ((evE Y.P Y.cx true e2 env a.2.2).bind fun c => (R.ok ([], c.2.2) : R (List (D × Bool) × Hp)).bind fun q => .ok ((c.1, c.2.1) :: q.1, q.2)).bind fun q => (.ok ((a.1, a.2.1) :: q.1, q.2) : R (List (D × Bool) × Hp))).st env fun q => match setsE env [i, j] q.1 with
      | some env1 => .nx env1 q.2
      | none => .bad) := run
  have e3 : ∀ (r : RV) (g : D × Bool × Hp → RV) (f : List (D × Bool) × Hp → SR), ((r.bind fun a => ((g a).bind fun c => (R.ok ([], c.2.2) : R (List (D × Bool) × Hp)).bind fun q => .ok ((c.1, c.2.1) :: q.1, q.2)).bind fun q => (.ok ((a.1, a.2.1) :: q.1, q.2) : R (List (D × Bool) × Hp))).st env f)
      = r.st env fun a => (g a).st env fun c => f ([(a.1, a.2.1), (c.1, c.2.1)], c.2.2) := fun r g f => by
    cases r with
    | ok a =>
      show (((g a).bind fun c => (R.ok ([(c.1, c.2.1)], c.2.2) : R (List (D × Bool) × Hp))).bind fun q => (.ok ((a.1, a.2.1) :: q.1, q.2) : R (List (D × Bool) × Hp))).st env f = (g a).st env fun c => f ([(a.1, a.2.1), (c.1, c.2.1)], c.2.2)
      cases g a <;> rfl
    | exn _ _ => rfl
    | bad => rfl
  rw [e3 _ (fun a => evE Y.P Y.cx true e2 env a.2.2)] at run
  refine ⟨env, h, b, G, B.bd, stS B run fun d own h' v H' b' G' e0 x x0 vs rs run => ?_⟩
  have hG : ∀ a, G a → G' a := fun a z => by
    unfold Res at rs
    split at rs
    · obtain ⟨p, _, _, e3, _⟩ := rs; rw [e3]; exact .inl z
    · rw [rs.1]; exact z
  have B1 := B.ext x hG vs
  have run := run.ext (SExt.of x)
  refine ⟨env, h', b', G', B1.bd, stS B1 run fun d2 own2 h2 v2 H2 b2 G2 e4 y y0 vs2 rs2 run => ?_⟩
  have hG2 : ∀ a, G' a → G2 a := fun a z => by
    unfold Res at rs2
    split at rs2
    · obtain ⟨p, _, _, e3, _⟩ := rs2; rw [e3]; exact .inl z
    · rw [rs2.1]; exact z
  have B2 := B1.ext y hG2 vs2
  refine ⟨v, v2, rfl, ?_⟩
  simp only [setsE] at run
  split at run
  · rename_i env1 es
    split at es
    · rename_i hli
      split at es
      · rename_i hlj
        cases es
        have hlj : j < env.length := by rwa [List.length_set] at hlj
        -- the first
        have so1 : SlotOk Y.K H2 b2 G2 v ⟨d, own⟩ := by
          have so : SlotOk Y.K H' b' G' v ⟨d, own⟩ := by
            unfold Res at rs
            unfold SlotOk
            split at rs
            · rename_i ho
              obtain ⟨p, q1, q2, q3, t⟩ := rs
              subst q3
              rw [if_pos (show (Sl.mk d own).own = true from ho)]
              exact ⟨p, q1, .inr rfl, t⟩
            · rename_i ho
              obtain ⟨q1, r⟩ := rs
              subst q1
              rw [if_neg (show ¬ (Sl.mk d own).own = true from ho)]
              simpa using r
          exact so.ext vs y hG2
        have n1 : own = true → ∀ a, v = .ref a → ¬ G a := fun ho a ea => by
          unfold Res at rs
          rw [if_pos ho] at rs
          obtain ⟨p, q1, q2, _, _⟩ := rs
          rw [q1] at ea
          cases ea
          exact q2
        have B3 := B2.put hli hi so1 fun ho a ea => ⟨fun z => n1 ho a ea (B.sub a z), fun k e _ z => B.no (n1 ho a ea) k e z⟩
        -- the second
        have so2 : SlotOk Y.K H2 b2 G2 v2 ⟨d2, own2⟩ := by
          unfold Res at rs2
          unfold SlotOk
          split at rs2
          · rename_i ho
            obtain ⟨p, q1, q2, q3, t⟩ := rs2
            subst q3
            rw [if_pos (show (Sl.mk d2 own2).own = true from ho)]
            exact ⟨p, q1, .inr rfl, t⟩
          · rename_i ho
            obtain ⟨q1, r⟩ := rs2
            subst q1
            rw [if_neg (show ¬ (Sl.mk d2 own2).own = true from ho)]
            simpa using r
        have n2 : own2 = true → ∀ a, v2 = .ref a → ¬ G' a := fun ho a ea => by
          unfold Res at rs2
          rw [if_pos ho] at rs2
          obtain ⟨p, q1, q2, _, _⟩ := rs2
          rw [q1] at ea
          cases ea
          exact q2
        have B4 := B3.put (by rw [List.length_set]; exact hlj) hj so2 fun ho a ea => ⟨fun z => n2 ho a ea (B1.sub a z), fun k e hk z q => ?_⟩
        · exact run _ H2 b2 G2 (SExt.of y) B4
        · by_cases hki : k = i
          · subst hki
            rw [List.getElem?_set_self hli] at z
            cases z
            rw [List.getElem?_set_self (Nat.lt_of_lt_of_le hli B.bd.ln)] at q
            cases q
            refine n2 ho a ea ?_
            unfold Res at rs
            rw [if_pos rfl] at rs
            obtain ⟨p, q1, _, q3, _⟩ := rs
            cases q1
            rw [q3]
            exact .inr rfl
          · rw [List.getElem?_set_ne (Ne.symm hki)] at z q
            exact B1.no (n2 ho a ea) k e z q
      · cases es
    · cases es
  · exact False.elim run
end
end Rw

set_option maxHeartbeats 2000000
/-! L3c: more statements. -/
namespace Rw
open PySem PySem.Spec PyProof.Rows L2

/-- c[k] = v by values -/
def rSto (K : Kx) : TSet := fun o i v H Q => ∃ a c k d c' b G, o = .ref a ∧ TopAt K H (wof b G) b a c.d ∧ Vw K H b G i k ∧ Rep K H (wof b G) b v d ∧ evSet c k d = some c' ∧ ∀ o', Holds K H (wof b G) b o' c'.d → Q (upd H a o')
theorem set_all {X : Cx} (hu : X.A.units + 80 < cLine) : PSet X (rSto (kx X)) := by
  rintro pins s σ H o i v ov iv u Q I ro ri rv ⟨a, c, k, d, c', b, G, rfl, t, vk, rd, e, q⟩
  cases c with
  | lst xs =>
    cases k with
    | int j =>
      cases vk.int
      obtain ⟨n, en, rfl⟩ := Option.map_eq_some_iff.mp (show (ixOf xs.length j).map (fun n => Cont.lst (xs.set n d)) = some c' from e)
      cases t with
      | @lst ws _ eh r =>
        refine set_list pins s σ H _ _ _ ov iv u Q I ro ri rv ⟨a, ws, j, n, rfl, rfl, eh, by rw [r.length]; exact en, q _ (.lst (r.set rd n))⟩
    | _ => cases e
  | dct ks zs =>
    have e : (if keyOk k && ks.all keyOk && decide (ks.length < maxLen) then some (Cont.dct (putD ks zs k d).1 (putD ks zs k d).2) else none) = some c' := e
    split at e
    · rename_i hk
      rw [Bool.and_eq_true, Bool.and_eq_true, decide_eq_true_iff] at hk
      obtain ⟨⟨hk, hks⟩, hz⟩ := hk
      cases e
      have t : TopAt (kx X) H (wof b G) b a (.dct ks zs) := t
      cases t with
      | @dct kvs _ eh r =>
        obtain ⟨key, rfl⟩ := kD_of hk
        cases key_of_kD vk
        rw [List.length_map] at hz
        exact set_dict (by omega) pins s σ H _ _ _ ov iv u Q I ro ri rv ⟨a, _, rfl, DPut.k eh (lt_line hz), q _ (holds_put I eh r rd)⟩
    · cases e
theorem evSet_kind {c c' : Cont} {k d : D} (e : evSet c k d = some c') : (∃ xs ys, c = .lst xs ∧ c' = .lst ys) ∨ ∃ ks vs ks' vs', c = .dct ks vs ∧ c' = .dct ks' vs' := by
  cases c with
  | lst xs =>
    cases k with
    | int j =>
      obtain ⟨n, en, rfl⟩ := Option.map_eq_some_iff.mp (show (ixOf xs.length j).map (fun n => Cont.lst (xs.set n d)) = some c' from e)
      exact .inl ⟨_, _, rfl, rfl⟩
    | _ => cases e
  | dct ks zs =>
    have e : (if keyOk k && ks.all keyOk && decide (ks.length < maxLen) then some (Cont.dct (putD ks zs k d).1 (putD ks zs k d).2) else none) = some c' := e
    split at e
    · cases e; exact .inr ⟨_, _, _, _, rfl, rfl⟩
    · cases e
theorem setRef_some {r k v : D} {h h1 : Hp} (e : setRef r k v h = some h1) : ∃ n c c', r = .ref n ∧ h[n]? = some (contC c) ∧ evSet c k v = some c' ∧ h1 = h.set n (contC c') := by
  unfold setRef at e
  split at e
  · rename_i n
    split at e
    · rename_i xs q
      split at e
      · rename_i ys z
        cases e
        exact ⟨n, .lst xs, .lst ys, rfl, q, z, rfl⟩
      · cases e
    · rename_i ks vs q
      split at e
      · rename_i ks' vs' z
        cases e
        exact ⟨n, .dct ks vs, .dct ks' vs', rfl, q, z, rfl⟩
      · cases e
    · cases e
  · cases e
def ipOf : Op → TIp
  | .add => ipI fun i j => i + j
  | .sub => ipI fun i j => i - j
  | _ => fun _ _ _ _ => False
theorem ip_of {X : Cx} : ∀ o : Op, (o = .add ∨ o = .sub) → PIp X (pyOp o) (ipOf o)
  | .add, _ => ip_add
  | .sub, _ => ip_sub
  | .mul, h => by simp at h
  | .fdiv, h => by simp at h
  | .mod, h => by simp at h
  | .pow, h => by simp at h
  | .shl, h => by simp at h
  | .shr, h => by simp at h
section
variable {Y : Sx} {F : Addr → Prop} {Z : Ends} {env : Env} {h h' : Hp} {σ : L2.St} {H H' H2 : HpC} {b b' b2 : List Addr} {G G' G2 : Addr → Prop}
/-- into a cell: the place and what is stored stand -/
theorem sto_ref {d dk y : D} {v w u : V} {h1 : Hp} (B : StB Y F env h σ H b G) (vr : Vw Y.K H b G v d) (vk : Vw Y.K H b G w dk) (ru : Rep Y.K H (wof b G) b u y) (e : setRef d dk y h = some h1) (run : SRun Y F Z H b G (.nx env h1)) : rSto Y.K v w u H fun H3 => Z.nx σ H3 := by
  obtain ⟨n, c, c', rfl, q, es, rfl⟩ := setRef_some e
  obtain ⟨a, e1, rfl⟩ : ∃ a, b[n]? = some a ∧ v = .ref a := by
    cases vr with
    | rep r => cases r with | ref r => exact ⟨_, r, rfl⟩
    | top e t => cases t
  have t := B.bd.vs.cell q e1
  rw [contC_d] at t
  refine ⟨a, c, dk, y, c', b, G, rfl, t, vk, ru, es, fun o' ho => ?_⟩
  obtain ⟨x, s2⟩ := vs_put (c := contC c') B.bd.vs e1 (contC_d c') ho
  exact run σ _ b G (SExt.of x) (B.on x s2)
theorem sem_setxE {r k : E} {t : TE} (ht : ∀ H Q, semE Y false r σ H Q → t σ H Q) (env : Env) (h : Hp) (b : List Addr) (G F : Addr → Prop) (B : StB Y F env h σ H b G) {u : V} {y : D} (ru : Rep Y.K H (wof b G) b u y)
    (run : SRun Y F Z H b G ((evE Y.P Y.cx false r env h).st env fun x => (evE Y.P Y.cx false k env x.2.2).st env fun z => match setRef x.1 z.1 y z.2.2 with
      | some h1 => .nx env h1
      | none => .bad)) : gSub t (semE Y false k) (rSto Y.K) u σ H Z.nx := by
  refine ht H _ ⟨env, h, b, G, B.bd, stS B run fun d own h1 v1 H1 b1 G1 e0 x x2 vs rs run => ?_⟩
  obtain ⟨vs, vr⟩ := rs.vw vs
  have B1 := B.on x2 vs
  refine ⟨env, h1, b1, G, B1.bd, stS B1 (run.ext (SExt.of x2)) fun dk ok h2 v2 H2 b2 G2 e1 z z2 vs2 rs2 run => ?_⟩
  obtain ⟨vs2, vk⟩ := rs2.vw vs2
  have B2 := B1.on z2 vs2
  split at run
  · rename_i h3 es
    exact sto_ref B2 (vr.ext vs z2 (fun _ w => w)) vk ((ru.kept x2.kept).kept z2.kept) es (run.ext (SExt.of z2))
  · exact False.elim run
theorem sem_setx {r k v : E} (hr : rootVar r = none) (q : semS Y (.setx r k v) Z σ H) : tAsg (semE Y true v) (gSub (semE Y false r) (semE Y false k) (rSto Y.K)) Z σ H := by
  obtain ⟨env, h, b, G, F, B, run⟩ := q
  unfold evS at run
  simp only [hr] at run
  refine ⟨env, h, b, G, B.bd, stS B run fun y own h1 u H1 b1 G1 e0 x x2 vs rs run => ?_⟩
  obtain ⟨vs, ru⟩ := rs.rep vs
  exact sem_setxE (r := r) (fun _ _ q => q) env h1 b1 G F (B.on x2 vs) ru (run.ext (SExt.of x2))
theorem sem_setxV {i : Nat} {k v : E} (q : semS Y (.setx (.var i) k v) Z σ H) : tAsg (semE Y true v) (gSub (tVar i) (semE Y false k) (rSto Y.K)) Z σ H := by
  obtain ⟨env, h, b, G, F, B, run⟩ := q
  unfold evS at run
  have er : rootVar (.var i) = some i := rfl
  simp only [er] at run
  refine ⟨env, h, b, G, B.bd, stS B run fun y own h1 u H1 b1 G1 e0 x x2 vs rs run => ?_⟩
  obtain ⟨vs, ru⟩ := rs.rep vs
  have B1 := B.on x2 vs
  have run := run.ext (SExt.of x2)
  cases eo : ownAt env i with
  | none =>
    simp only [eo] at run
    exact sem_setxE (r := .var i) (fun _ _ => sem_var) env h1 b1 G F B1 ru run
  | some c =>
    simp only [eo] at run
    obtain ⟨a, ea, ga, nf, t⟩ := own_slot B1 eo
    refine ⟨.ref a, ea, env, h1, b1, G, B1.bd, stS B1 run fun dk ok h2 v2 H2 b2 G2 e1 z z2 vs2 rs2 run => ?_⟩
    obtain ⟨vs2, vk⟩ := rs2.vw vs2
    have B2 := B1.on z2 vs2
    split at run
    · rename_i c' es
      refine ⟨a, c, dk, y, c', b2, G, rfl, t.ext vs ga z2, vk, ru.kept z2.kept, es, fun o' ho => ?_⟩
      obtain ⟨sx, B3⟩ := B2.wr (d' := c'.d) (ownAt_some eo) ea ho
      exact run σ _ b2 G ((SExt.of z2).trans sx) B3
    · exact False.elim run
theorem sem_aug {i : Nat} {o : Op} {e : E} (hx : ∀ p, Y.exv = some p → p.1 ≠ i) (q : semS Y (.aug i o e) Z σ H) : tAug i (semE Y false e) (ipOf o) Z σ H := by
  obtain ⟨env, h, b, G, F, B, run⟩ := q
  unfold evS at run
  split at run
  · rename_i x own ei
    have hi : i < env.length := (List.getElem?_eq_some_iff.mp ei).1
    obtain ⟨v, e1, so⟩ := B.bd.sl i _ ei
    have hv : v = .int x := by
      unfold SlotOk at so
      split at so
      · obtain ⟨a, _, _, t⟩ := so; cases t
      · cases so; rfl
    subst hv
    refine ⟨.int x, e1, env, h, b, G, B.bd, stS B run fun d own h1 u H1 b1 G1 e0 x x2 vs rs run => ?_⟩
    obtain ⟨vs, ru⟩ := rs.vw vs
    have B1 := B.on x2 vs
    split at run
    · rename_i y he _
      have he : d = .int y := he
      subst he
      cases ru.int
      exact ⟨_, _, rfl, rfl, run _ H1 b1 G (SExt.of x2) (B1.putR hi hx (.int _))⟩
    · rename_i y he _
      have he : d = .int y := he
      subst he
      cases ru.int
      exact ⟨_, _, rfl, rfl, run _ H1 b1 G (SExt.of x2) (B1.putR hi hx (.int _))⟩
    · exact False.elim run
  · exact False.elim run
/-! ### ends -/
theorem Res.rt {v : V} {d : D} {own : Bool} {K : Kx} (sub : ∀ a, F a → G a) (r : Res K true H b G v d own G') : (∀ a, F a → G' a) ∧ RtOk K F H b G' v d own := by
  cases own with
  | true =>
    obtain ⟨p, e1, e2, e3, t⟩ : ∃ p, v = .ref p ∧ ¬ G p ∧ G' = plus G p ∧ TopAt K H (wof b (plus G p)) b p d := by simpa [Res] using r
    subst e3
    exact ⟨fun a z => .inl (sub a z), p, e1, .inr rfl, fun z => e2 (sub p z), t⟩
  | false =>
    obtain ⟨e1, r⟩ : G' = G ∧ Rep K H (wof b G) b v d := by simpa [Res] using r
    subst e1
    exact ⟨sub, r⟩
theorem sem_ret {e : E} (q : semS Y (.ret e) Z σ H) : tRet (semE Y true e) Z σ H := by
  obtain ⟨env, h, b, G, F, B, run⟩ := q
  refine ⟨env, h, b, G, B.bd, stS B (show SRun Y F Z H b G ((evE Y.P Y.cx true e env h).st env fun r => .rt r.1 r.2.1 r.2.2) from run) fun d own h' v H' b' G' e0 x x2 vs rs run => ?_⟩
  obtain ⟨s, r⟩ := rs.rt B.sub
  exact run v H' b' G' (SExt.of x) vs s r
theorem sem_retv {i : Nat} (q : semS Y (.retv i) Z σ H) : tRet (tVar i) Z σ H := by
  obtain ⟨env, h, b, G, F, B, run⟩ := q
  have run : SRun Y F Z H b G (match env[i]? with
    | some (some ⟨d, own⟩) => .rt d own h
    | _ => .bad) := run
  split at run
  · rename_i d own e
    obtain ⟨v, e1, so⟩ := B.bd.sl i _ e
    refine ⟨v, e1, run v H b G SExt.refl B.bd.vs B.sub ?_⟩
    unfold SlotOk at so
    unfold RtOk
    split at so
    · rename_i ho
      have ho : own = true := ho
      subst ho
      obtain ⟨a, e2, ga, t⟩ := so
      obtain ⟨c, e3, _, nf⟩ := B.own i d e
      rw [e1, e2] at e3
      cases e3
      exact ⟨a, e2, ga, nf, t⟩
    · rename_i ho
      rw [if_neg (show ¬ own = true from ho)]
      exact so
  · exact False.elim run
theorem sem_retN (q : semS Y .retN Z σ H) : tRetN Z σ H := by
  obtain ⟨env, h, b, G, F, B, run⟩ := q
  exact run .non H b G SExt.refl B.bd.vs B.sub .non
theorem sem_pass (q : semS Y .pass Z σ H) : tNext Z σ H := by
  obtain ⟨env, h, b, G, F, B, run⟩ := q
  exact run σ H b G SExt.refl B
theorem sem_brk (q : semS Y .brk Z σ H) : tBreak Z σ H := by
  obtain ⟨env, h, b, G, F, B, run⟩ := q
  exact run σ H b G SExt.refl B
theorem sem_cnt (q : semS Y .cnt Z σ H) : tCont Z σ H := by
  obtain ⟨env, h, b, G, F, B, run⟩ := q
  exact run σ H b G SExt.refl B
theorem sem_frz {is : List Nat} {s : S} (q : semS Y (.frz is s) Z σ H) : semS Y s Z σ H := by
  obtain ⟨env, h, b, G, F, B, run⟩ := q
  obtain ⟨G', l, B'⟩ := B.frz (is := is)
  exact ⟨frzE env is, h, b, G', F, B', SRun.ext (show SRun Y F Z H b G (evS Y.P Y.cx s (frzE env is) h) from run) (SExt.less l)⟩
theorem sem_snil (q : semSs Y .nil Z σ H) : tNext Z σ H := by
  obtain ⟨env, h, b, G, F, B, run⟩ := q
  exact run σ H b G SExt.refl B
theorem sem_scons {s : S} {r : Ss} (q : semSs Y (.cons s r) Z σ H) : tSeq (semS Y s) (semSs Y r) Z σ H := by
  obtain ⟨env, h, b, G, F, B, run⟩ := q
  have run : SRun Y F Z H b G ((evS Y.P Y.cx s env h).seq fun env h => evSs Y.P Y.cx r env h) := run
  refine ⟨env, h, b, G, F, B, ?_⟩
  cases e : evS Y.P Y.cx s env h with
  | nx env1 h1 =>
    rw [e] at run
    exact fun σ' H' b' G' x B' => ⟨env1, h1, b', G', F, B', run.ext x⟩
  | bk _ _ => rw [e] at run; exact run
  | ct _ _ => rw [e] at run; exact run
  | rt _ _ _ => rw [e] at run; exact run
  | exn _ _ _ => rw [e] at run; exact run
  | bad => rw [e] at run; exact run
theorem sem_ifs {c : E} {a a2 : Ss} (q : semS Y (.ifs c a a2) Z σ H) : tIfS (semB Y c) (semSs Y a) (semSs Y a2) Z σ H := by
  obtain ⟨env, h, b, G, F, B, run⟩ := q
  refine ⟨env, h, b, G, B.bd, stR B (show SRun Y F Z H b G ((asBool (evE Y.P Y.cx false c env h)).st env fun k => if k.1 then evSs Y.P Y.cx a env k.2 else evSs Y.P Y.cx a2 env k.2) from run) fun k H' b' e0 x run vs => ?_⟩
  have B1 := B.on x vs
  have run := run.ext (SExt.of x)
  show if k.1 = true then semSs Y a Z σ H' else semSs Y a2 Z σ H'
  split
  · rename_i hk
    rw [if_pos hk] at run
    exact ⟨env, k.2, b', G, F, B1, run⟩
  · rename_i hk
    rw [if_neg hk] at run
    exact ⟨env, k.2, b', G, F, B1, run⟩
/-! ### loops -/
theorem sem_while {c : E} {s : Ss} (q : semS Y (.while_ c s) Z σ H) : tWhile (semB Y c) (semSs Y s) Z σ H := by
  obtain ⟨env, h, b, G, F, B, run⟩ := q
  have run : SRun Y F Z H b G (whileGo (fun env h => asBool (evE Y.P Y.cx false c env h)) (evSs Y.P Y.cx s) Y.P.wf env h) := run
  refine ⟨fun m σ' H' => ∃ env h b' G', SExt F H b G H' b' G' ∧ StB Y F env h σ' H' b' G' ∧ SRun Y F Z H b G (whileGo (fun env h => asBool (evE Y.P Y.cx false c env h)) (evSs Y.P Y.cx s) m env h), ⟨_, env, h, b, G, SExt.refl, B, run⟩, ?_⟩
  rintro m σ1 H1 ⟨env1, h1, b1, G1, x1, B1, run1⟩
  cases m with
  | zero => exact False.elim run1
  | succ m =>
    have run1 : SRun Y F Z H b G ((asBool (evE Y.P Y.cx false c env1 h1)).st env1 fun k => if k.1 then match evSs Y.P Y.cx s env1 k.2 with
      | .nx env2 h2 => whileGo (fun env h => asBool (evE Y.P Y.cx false c env h)) (evSs Y.P Y.cx s) m env2 h2
      | .ct env2 h2 => whileGo (fun env h => asBool (evE Y.P Y.cx false c env h)) (evSs Y.P Y.cx s) m env2 h2
      | .bk env2 h2 => .nx env2 h2
      | r => r
    else .nx env1 k.2) := run1
    have go : ∀ k H2 b2, asBool (evE Y.P Y.cx false c env1 h1) = .ok k → Ext H1 b1 G1 H2 b2 G1 → SRun Y F Z H b G (if k.1 then match evSs Y.P Y.cx s env1 k.2 with
      | .nx env2 h2 => whileGo (fun env h => asBool (evE Y.P Y.cx false c env h)) (evSs Y.P Y.cx s) m env2 h2
      | .ct env2 h2 => whileGo (fun env h => asBool (evE Y.P Y.cx false c env h)) (evSs Y.P Y.cx s) m env2 h2
      | .bk env2 h2 => .nx env2 h2
      | r => r
    else .nx env1 k.2) → okB Y.K G1 (fun k H2 => if k = true then ∃ N : L2.St → HpC → Prop, (∀ σ' H', N σ' H' → ∃ m', m' < m + 1 ∧ ∃ env h b' G', SExt F H b G H' b' G' ∧ StB Y F env h σ' H' b' G' ∧ SRun Y F Z H b G (whileGo (fun env h => asBool (evE Y.P Y.cx false c env h)) (evSs Y.P Y.cx s) m' env h)) ∧
        semSs Y s { Z with nx := N, ct := N, bk := Z.nx } σ1 H2 else Z.nx σ1 H2) k H2 b2 := fun k H2 b2 e0 x run2 vs => by
      have B2 := B1.on x vs
      have x2 := x1.trans (SExt.of x)
      show if k.1 = true then _ else _
      split
      · rename_i hk
        rw [if_pos hk] at run2
        refine ⟨fun σ' H' => ∃ env h b' G', SExt F H b G H' b' G' ∧ StB Y F env h σ' H' b' G' ∧ SRun Y F Z H b G (whileGo (fun env h => asBool (evE Y.P Y.cx false c env h)) (evSs Y.P Y.cx s) m env h), fun σ' H' w => ⟨m, Nat.lt_succ_self m, w⟩, env1, k.2, b2, G1, F, B2, ?_⟩
        cases e : evSs Y.P Y.cx s env1 k.2 with
        | nx env2 h2 => rw [e] at run2; exact fun σ' H' b' G' x' B' => ⟨env2, h2, b', G', x2.trans x', B', run2⟩
        | ct env2 h2 => rw [e] at run2; exact fun σ' H' b' G' x' B' => ⟨env2, h2, b', G', x2.trans x', B', run2⟩
        | bk env2 h2 => rw [e] at run2; exact fun σ' H' b' G' x' B' => run2 σ' H' b' G' (x2.trans x') B'
        | rt d o h2 => rw [e] at run2; exact fun v H' b' G' x' => run2 v H' b' G' (x2.trans x')
        | exn y env2 h2 => rw [e] at run2; exact fun dd σ' H' b' G' x' => run2 dd σ' H' b' G' (x2.trans x')
        | bad => rw [e] at run2; exact False.elim run2
      · rename_i hk
        rw [if_neg hk] at run2
        exact run2 σ1 H2 b2 G1 x2 B2
    refine ⟨env1, h1, b1, G1, B1.bd, ?_⟩
    cases e : asBool (evE Y.P Y.cx false c env1 h1) with
    | ok k => rw [e] at run1; exact fun H2 b2 x => go k H2 b2 e x run1
    | exn y h2 => rw [e] at run1; exact fun dd H2 b2 x s xa => run1 dd σ1 H2 b2 G1 (x1.trans (SExt.of x)) (B1.on x s) xa
    | bad => rw [e] at run1; exact False.elim run1
theorem sem_for {t : Tg} {w : It} {s : Ss} (hpr : prW w = true → isN t = false) (hx : ∀ p, Y.exv = some p → p.1 ∉ tgSlots t) (q : semS Y (.for_ t w s) Z σ H) : tFor (semI Y true w) (semT Y.K t) (semSs Y s) Z σ H := by
  obtain ⟨env, h, b, G, F, B, run⟩ := q
  have run : SRun Y F Z H b G ((evI Y.P Y.cx true w env h).st env fun r => forGo (stays r.1 r.2.1) t (evSs Y.P Y.cx s) r.2.1 env r.2.2) := run
  refine ⟨env, h, b, G, B.bd, stR B run fun r H1 b1 er x1 run vs1 J jok => ?_⟩
  obtain ⟨src, ds, h1⟩ := r
  have B1 := B.on x1 vs1
  have run := run.ext (SExt.of x1)
  refine ⟨fun i m σ' H' => m = ds.length - i ∧ i ≤ ds.length ∧ ∃ env h b' G', SExt F H1 b1 G H' b' G' ∧ StB Y F env h σ' H' b' G' ∧ SRun Y F Z H1 b1 G (forGo (stays src ds) t (evSs Y.P Y.cx s) (ds.drop i) env h), ⟨ds.length, by simp, Nat.zero_le _, env, h1, b1, G, SExt.refl, B1, run⟩, ?_⟩
  rintro i m σ2 H2 ⟨rfl, hi, env2, h2, b2, G2, x2, B2, run2⟩
  have rl : RlC true H1 b1 G H2 b2 G2 := ⟨x2.kept B1.sub, fun z => by cases z⟩
  by_cases hlt : i < ds.length
  · rw [drop_at hlt] at run2
    unfold forGo at run2
    split at run2
    · rename_i hc
      split at run2
      · rename_i env3 ea
        obtain ⟨go, yl⟩ := (jok H2 b2 G2 h2 i B2.bd.vs rl hc).1 ds[i] (by simp [hlt])
        refine .inr ⟨go, fun σ' H' => i + 1 ≤ ds.length ∧ ∃ env h b' G', SExt F H1 b1 G H' b' G' ∧ StB Y F env h σ' H' b' G' ∧ SRun Y F Z H1 b1 G (forGo (stays src ds) t (evSs Y.P Y.cx s) (ds.drop (i + 1)) env h), fun σ' H' q => ⟨ds.length - (i + 1), by omega, rfl, q.1, q.2⟩, fun x H3 y => ?_⟩
        obtain ⟨x3, same, it⟩ := yl x H3 y
        have B3 := B2.on x3 (B2.bd.vs.ext x3 same)
        have e3 := x2.trans (SExt.of x3)
        refine ⟨env2, b2, G2, prW w, ds[i], env3, fun env' σ' => StB Y F env' h2 σ' H3 b2 G2, fun env' σ' j v d hj B' hl rr => B'.putR hl (fun p hp z => hx p hp (z ▸ hj)) rr, B3, it, hpr, ea, fun σ' B' => ⟨env3, h2, b2, G2, F, B', ?_⟩⟩
        cases e : evSs Y.P Y.cx s env3 h2 with
        | nx env4 h4 => rw [e] at run2; exact fun σ' H' b' G' x' B' => ⟨hlt, env4, h4, b', G', e3.trans x', B', run2⟩
        | ct env4 h4 => rw [e] at run2; exact fun σ' H' b' G' x' B' => ⟨hlt, env4, h4, b', G', e3.trans x', B', run2⟩
        | bk env4 h4 => rw [e] at run2; exact fun σ' H' b' G' x' B' => run2 σ' H' b' G' (e3.trans x') B'
        | rt d o h4 => rw [e] at run2; exact fun v H' b' G' x' => run2 v H' b' G' (e3.trans x')
        | exn y env4 h4 => rw [e] at run2; exact fun dd σ' H' b' G' x' => run2 dd σ' H' b' G' (e3.trans x')
        | bad => rw [e] at run2; exact False.elim run2
      · exact False.elim run2
    · exact False.elim run2
  · have hi' : i = ds.length := by omega
    subst hi'
    rw [List.drop_length] at run2
    unfold forGo at run2
    split at run2
    · rename_i hc
      exact .inl ⟨(jok H2 b2 G2 h2 ds.length B2.bd.vs rl hc).2 (Nat.le_refl _), run2 σ2 H2 b2 G2 x2 B2⟩
    · exact False.elim run2
end
end Rw

set_option maxHeartbeats 4000000
/-! L3d: raise, try. -/
namespace Rw
open PySem PySem.Spec PyProof.Rows L2

/-! ### several clauses, each with or without a name -/
def clrD (i : Nat) (Z : Ends) : Ends := { nx := fun σ' H' => Z.nx (σ'.set i none) H', rt := Z.rt, bk := fun σ' H' => Z.bk (σ'.set i none) H', ct := fun σ' H' => Z.ct (σ'.set i none) H' }
abbrev ClT := Value × Option Nat × (Addr → Value → Option Addr → TS)
def wAll (K : PySem.W.Frag) (Wo : WX) (Z : Ends) : List ClT → WX
  | [] => Wo
  | (c, i, ts) :: r => fun cls d σ H => ∃ k, PySem.W.exmOne K cls c = some k ∧ (k = true → ∀ a, H a = none → (match i with
      | none => ts a cls d Z σ H
      | some i => ts a cls d (clrD i Z) (σ.set i (some (.ref a))) H)) ∧ (k = false → wAll K Wo Z r cls d σ H)
inductive ClsOk (X : Cx) : List ExceptHandler → List ClT → Prop
  | nil : ClsOk X [] []
  | bare {x : Str} {c : Value} {ts : Addr → Value → Option Addr → TS} {st : Stmt} {suite : List Stmt} {np p' : Pos} {hds : List ExceptHandler} {l : List ClT} (hc : Names X x c)
      (su : ∀ (a : Addr) (oe : Obj) (cls : Value) (d : Option Addr) (pn : List (Addr × Obj)), Zc cls d oe → (∃ vs, oe.data = .fields vs) → PSs (X.suite a ((a, oe) :: pn)) (st :: suite) (ts a cls d)) (r : ClsOk X hds l) :
      ClsOk X (.ExceptHandler (some (.Name x np)) none (st :: suite) p' :: hds) ((c, none, ts) :: l)
  | as_ {x n : Str} {i : Nat} {c : Value} {ts : Addr → Value → Option Addr → TS} {st : Stmt} {suite : List Stmt} {np p' : Pos} {hds : List ExceptHandler} {l : List ClT} (hi : X.N[i]? = some n) (hln : X.env.kindOf n = some .local) (hc : Names X x c)
      (su : ∀ (a : Addr) (oe : Obj) (cls : Value) (d : Option Addr) (pn : List (Addr × Obj)), Zc cls d oe → (∃ vs, oe.data = .fields vs) → PSs (X.suite a ((a, oe) :: pn)) (st :: suite) (ts a cls d)) (r : ClsOk X hds l) :
      ClsOk X (.ExceptHandler (some (.Name x np)) (some n) (st :: suite) p' :: hds) ((c, some i, ts) :: l)
section
variable {X : Cx} {body : List Stmt} {h₀ : ExceptHandler} {hds : List ExceptHandler} {l : List ClT} {pos : Pos} {tb : WX → TS} {Wo : WX}
theorem ps_tryAll (hs : X.stack = X.env :: X.outer) (hf : X.env.frame = some X.env.locals) (hN : X.N.Nodup) (tk : Takes X Wo)
    (hb : ∀ (W : WX) (pn : List (Addr × Obj)) (xe : Value → Shared → Prop), Takes (X.tr pn xe) W → PassesOwn (model X.prog X.w) X.A X.env xe → PSs (X.tr pn xe) body (tb W))
    (hh : ClsOk X (h₀ :: hds) l) : PS X (.Try body (h₀ :: hds) [] [] pos) (fun Z σ H => tb (wAll X.K Wo Z l) Z σ H) := by
  refine ⟨fun pins s σ H Z I q0 => ?_⟩
  have iok := I.ok
  have hfr : X.A.frames = some (X.env :: X.outer) := by rw [iok.frames, hs]
  refine wpAny_Try_except (wpAny_mono ((hb (wAll X.K Wo Z l) (X.pn ++ pins) (fun e s₁ => wpAny (model X.prog X.w) X.A (noteFrame e X.env) (fun _ s₂ => wpAny (model X.prog X.w) X.A (setFlight e none) (fun _ s₃ =>
    wpAny (model X.prog X.w) X.A (handleBy e X.env (h₀ :: hds)) (SP X pins Z) X.xe s₃) X.xe s₂) X.xe s₁) (fun u s' xx => ?_) PassesOwn.looking).run [] s σ H Z (I.toTry _) q0) (fun f s1 hsp => ?_) (fun e s1 he => he))
  · obtain ⟨a, gr, sI, pn', σ', H', cls, d, rfl, I0, nb, up, sky, na, os, ag, w⟩ := xx
    have I1 : Inv X pins σ' H' sI := I0.ofTry iok
    have skyE : Sky gr (X.env :: X.outer) a (Zc cls d) X.env.locals s'.heap := by rw [← hs]; exact sky
    show wpAny (model X.prog X.w) X.A (noteFrame (.ref a) X.env) _ _ _
    refine Sky.land Zc.steady hfr hf skyE fun hp3 fl3 up3 => ?_
    have I3 : Inv X pins σ' H' { s' with heap := hp3 } := I1.landed nb fl3.1 (up.trans up3) os ag
    obtain ⟨o3, vs3, at3, z3, dt3⟩ := fl3.there
    have noFr : ∀ {k : Heap} {o : Obj} {ws : Array Value}, k.FunFrames gr (X.env :: X.outer) → k.get? a = some o → o.data = .fields ws → a ∉ frs (X.env :: X.outer) := fun {k o ws} ff e1 e2 hm => by
      obtain ⟨_, o1, e3, no⟩ := ff.mem hm
      rw [e1] at e3
      cases e3
      exact no _ e2
    have away := noFr fl3.2.2.1 at3 dt3
    have n1 : a ≠ X.env.locals := fun y => away (List.mem_filterMap.mpr ⟨X.env, List.mem_cons_self, by rw [hf, y]⟩)
    have n2 : a ∉ X.fs := fun hm => by
      obtain ⟨e, m1, m2⟩ := List.mem_filterMap.mp hm
      exact away (List.mem_filterMap.mpr ⟨e, List.mem_cons_of_mem _ m1, m2⟩)
    have Su3 := I3.suite at3 dt3 na n1 n2
    have walk : ∀ {hds' : List ExceptHandler} {l' : List ClT}, ClsOk X hds' l' → wAll X.K Wo Z l' cls d σ' H' →
        wpAny (model X.prog X.w) X.A (handleBy (.ref a) X.env hds') (SP X pins Z) X.xe { s' with heap := hp3 } := by
      intro hds' l' ck
      -- is the clause meant?
      have tst : ∀ {x : Str} {c : Value} {np : Pos} {Q : Value → Shared → Prop} {E : Value → Shared → Prop}, Names X x c → Q c { s' with heap := hp3 } → wpAny (model X.prog X.w) (X.A.mark (some (.ref a))) (eval (.Name x np) X.env) Q E { s' with heap := hp3 } := fun {x c np Q E} nm q => by
        obtain ⟨hg, hd, hm | ⟨hm, hv, hn⟩⟩ := nm
        · exact ld_glob (X := X.suite a ((a, o3) :: (X.pn ++ pins))) Su3 hg hm q hd
        · exact ld_blt (X := X.suite a ((a, o3) :: (X.pn ++ pins))) Su3 hg hm hv q hn hd
      have ty3 : PySem.W.Looks (model X.prog X.w) hp3 (typeOf (.ref a)) cls := fun A Q E z k q => wpAny_typeOf_ref (k _ _ at3) (by rw [z3.1]; exact q)
      induction ck with
      | nil =>
        intro w
        refine wpAny_handleBy_nil ?_
        obtain ⟨_, _, _, oe, vs, T, oT, _, he, _, hd, h1, _⟩ := id fl3
        unfold PySem.passOn
        refine wpAny_bind (wpAny_field he hd h1 ?_)
        rw [if_neg (show ¬ ((Value.ref T == Value.none) = true) from by simp)]
        have out : wpAny (model X.prog X.w) X.A (setFlight (.ref a) X.env.frame) (fun _ s4 => wpAny (model X.prog X.w) X.A (throw (.ref a) : Sem Flow) (SP X pins Z) X.xe s4) X.xe { s' with heap := hp3 } := by
          rw [hf]
          refine HandSPX.setFlight_upZ fl3 fun hp4 hh4 up4 => wpAny_throw (tk _ _ ?_)
          exact ⟨a, gr, sI, pins, σ', H', cls, d, rfl, I1, nb, (up.trans up3).trans up4, .inr (.inr (by rw [hs]; exact hh4)), na, os, ag, w⟩
        first
          | exact wpAny_bind (wpAny_pure (wpAny_bind out))
          | exact wpAny_bind out
      | @bare x c ts st suite np p' hds2 l2 hc su r ih =>
        rintro ⟨k, hk, yes, no⟩
        refine wpAny_handleBy_cons (codeAny_handlers_test ?_) (fun q => by cases q)
        refine tst hc ((PySem.W.exm_one (M := model X.prog X.w) (I3.kIn) ty3 hk).here ?_)
        cases k with
        | true =>
          refine codeAny_handlers_suite (HandSPX.lands_againZ fl3 fun hp4 fl4 up4 => ?_)
          have I4 : Inv X pins σ' H' { s' with heap := hp4 } := I1.landed nb fl4.1 ((up.trans up3).trans up4) os ag
          obtain ⟨o4, vs4, at4, z4, dt4⟩ := fl4.there
          refine wpAny_mono ((su a o4 cls d (X.pn ++ pins) z4 ⟨_, dt4⟩).run [] _ _ H' _ (I4.suite at4 dt4 na n1 n2) (yes rfl a na)) (fun f s6 fin => ?_) (fun _ _ z => False.elim z)
          cases f with
          | ret u =>
            obtain ⟨v6, σ6, H6, S6, r6, q6⟩ := fin
            exact ⟨_, _, _, S6.unsuite iok, r6, q6⟩
          | _ =>
            obtain ⟨σ6, H6, S6, q6⟩ := fin
            exact ⟨_, _, S6.unsuite iok, q6⟩
        | false =>
          show wpAny _ X.A (handleBy (.ref a) X.env hds2) _ _ _
          exact ih (no rfl)
      | @as_ x n i c ts st suite np p' hds2 l2 hi hln hc su r ih =>
        rintro ⟨k, hk, yes, no⟩
        refine wpAny_handleBy_cons (codeAny_handlers_test ?_) (fun q => by cases q)
        refine tst hc ((PySem.W.exm_one (M := model X.prog X.w) (I3.kIn) ty3 hk).here ?_)
        cases k with
        | true =>
          refine codeAny_handlers_suite_as (HandSPX.lands_againZ fl3 fun hp4 fl4 up4 => ?_)
          have I4 : Inv X pins σ' H' { s' with heap := hp4 } := I1.landed nb fl4.1 ((up.trans up3).trans up4) os ag
          obtain ⟨o4, vs4, at4, z4, dt4⟩ := fl4.there
          refine store_ok (X := X.suite a ((a, o4) :: (X.pn ++ pins))) (v := .ref a) (I4.suite at4 dt4 na n1 n2) hN hi (.inl hln) rfl (fun s5 S5 => ?_) (.inr hln)
          refine wpAny_mono ((su a o4 cls d (X.pn ++ pins) z4 ⟨_, dt4⟩).run [] s5 _ H' _ S5 (yes rfl a na)) (fun f s6 fin => ?_) (fun _ _ z => False.elim z)
          have gone : ∀ {σ6 : L2.St} {H6 : HpC} {Q : Shared → Prop}, Inv (X.suite a ((a, o4) :: (X.pn ++ pins))) [] σ6 H6 s6 → (∀ s7, Inv X pins (σ6.set i none) H6 s7 → Q s7) →
              wpAny (model X.prog X.w) X.A (do bindName X.env n .none; unbindBehindTheSuite X.env n p') (fun _ s7 => Q s7) X.xe s6 := fun {σ6 H6 Q} S6 hq => gone_ok (S6.unsuite iok) hN hi hln hq
          cases f with
          | ret u =>
            obtain ⟨v6, σ6, H6, S6, r6, q6⟩ := fin
            exact gone S6 fun s7 J7 => ⟨_, _, _, J7, r6, q6⟩
          | _ =>
            obtain ⟨σ6, H6, S6, q6⟩ := fin
            exact gone S6 fun s7 J7 => ⟨_, _, J7, q6⟩
        | false =>
          show wpAny _ X.A (handleBy (.ref a) X.env hds2) _ _ _
          exact ih (no rfl)
    exact walk hh w
  · cases f with
    | next =>
      obtain ⟨σ', H', J', q⟩ := hsp
      exact wpAny_execs_nil ⟨σ', H', J'.ofTry iok, q⟩
    | ret u =>
      obtain ⟨v, σ', H', J', r, q⟩ := hsp
      exact ⟨v, σ', H', J'.ofTry iok, r, q⟩
    | _ =>
      obtain ⟨σ', H', J', q⟩ := hsp
      exact ⟨σ', H', J'.ofTry iok, q⟩
end
/-! ### as the interpreter does it -/
def Sx.w (Y : Sx) (W : WX) : Sx := { Y with W := W }
def Sx.hd (Y : Sx) (x : Exn) (dd : Addr) (exv : Option (Nat × V)) : Sx := { Y with cx := some x, dd := dd, exv := exv, W := fun _ _ _ _ => False }
def semH (Y : Sx) (i : Option Nat) (s : Ss) (a : Addr) (cls : Value) (d : Option Addr) : TS := fun Z σ H => ∃ x dd, cls = .ref (Y.ca x.cls) ∧ d = some dd ∧ semSs (Y.hd x dd (i.map fun i => (i, .ref a))) s Z σ H
def clsL (Y : Sx) : Hs → List ClT
  | .nil => []
  | .cons c i s r => (.ref (Y.ca c), i, semH Y i s) :: clsL Y r
section
variable {Y : Sx} {F : Addr → Prop} {Z : Ends} {env : Env} {h h' : Hp} {σ : L2.St} {H H' H2 : HpC} {b b' b2 : List Addr} {G G' G2 : Addr → Prop}
theorem StB.toW (B : StB Y F env h σ H b G) (W : WX) : StB (Y.w W) F env h σ H b G := ⟨⟨B.bd.vs, B.bd.sl, B.bd.ln, B.bd.cx, B.bd.ev⟩, B.sub, B.own, B.dis⟩
theorem StB.ofW {W : WX} (B : StB (Y.w W) F env h σ H b G) : StB Y F env h σ H b G := ⟨⟨B.bd.vs, B.bd.sl, B.bd.ln, B.bd.cx, B.bd.ev⟩, B.sub, B.own, B.dis⟩
theorem StB.clr (B : StB Y F env h σ H b G) (i : Nat) (x : Option V) (hx : Y.exv = none) : StB Y F (env.set i none) h (σ.set i x) H b G := by
  have get : ∀ {j : Nat} {s : Sl}, (env.set i none)[j]? = some (some s) → env[j]? = some (some s) ∧ j ≠ i := fun {j s} z => by
    by_cases y : j = i
    · subst y
      by_cases l : j < env.length
      · rw [List.getElem?_set_self l] at z; cases z
      · rw [List.getElem?_eq_none (by rw [List.length_set]; omega)] at z; cases z
    · rw [List.getElem?_set_ne (Ne.symm y)] at z; exact ⟨z, y⟩
  refine ⟨⟨B.bd.vs, fun j s z => ?_, by rw [List.length_set, List.length_set]; exact B.bd.ln, B.bd.cx, fun p hp => by rw [hx] at hp; cases hp⟩, B.sub, fun j d z => ?_, fun j k d e n z1 z2 => ?_⟩
  · obtain ⟨z, y⟩ := get z
    rw [List.getElem?_set_ne (Ne.symm y)]
    exact B.bd.sl j s z
  · obtain ⟨z, y⟩ := get z
    rw [List.getElem?_set_ne (Ne.symm y)]
    exact B.own j d z
  · obtain ⟨z1, y1⟩ := get z1
    obtain ⟨z2, y2⟩ := get z2
    rw [List.getElem?_set_ne (Ne.symm y1), List.getElem?_set_ne (Ne.symm y2)]
    exact B.dis j k d e n z1 z2
theorem StB.back {x : Exn} {dd : Addr} {ev : Option (Nat × V)} (hx : Y.exv = none) (B0 : StB Y F env h σ H b G) {env' : Env} {σ' : L2.St} (e : SExt F H b G H' b' G') (B : StB (Y.hd x dd ev) F env' h' σ' H' b' G') : StB Y F env' h' σ' H' b' G' := by
  have k := e.kept B0.sub
  refine ⟨⟨B.bd.vs, B.bd.sl, B.bd.ln, fun y hy => ?_, fun p hp => by rw [hx] at hp; cases hp⟩, B.sub, B.own, B.dis⟩
  obtain ⟨fs, h1, h2, h3⟩ := B0.bd.cx y hy
  obtain ⟨k1, k2⟩ := k.keep _ _ h1 h2
  refine ⟨fs, k1, k2, fun f d z => ?_⟩
  obtain ⟨v, z1, z2⟩ := h3 f d z
  exact ⟨v, z1, z2.kept k⟩
theorem hs_run (hx : Y.exv = none) (hsub : ∀ k c, PySem.W.exmOne Y.K.f (.ref (Y.ca k)) (.ref (Y.ca c)) = some (Y.P.sub k c)) {x : Exn} {dd : Addr} (B : StB Y F env h σ H b G) (xa : XAt Y.K H b G dd x) :
    ∀ hs : Hs, SRun Y F Z H b G (evHs Y.P x hs env h) → wAll Y.K.f Y.W Z (clsL Y hs) (.ref (Y.ca x.cls)) (some dd) σ H
  | .nil, run => run dd σ H b G SExt.refl B xa
  | .cons c i s r, run => by
    have run : SRun Y F Z H b G (if Y.P.sub x.cls c then (if okSl i env then hdR i (evSs Y.P (some x) s (clrE env i) h) else .bad) else evHs Y.P x r env h) := run
    refine ⟨Y.P.sub x.cls c, hsub _ _, fun hk a _ => ?_, fun hk => ?_⟩
    · rw [if_pos hk] at run
      split at run
      · rename_i ok
        have xh : CtxOk Y.K (some x) dd H b G := fun y hy => by cases hy; exact xa
        cases i with
        | none =>
          refine ⟨x, dd, rfl, rfl, env, h, b, G, F, ⟨⟨B.bd.vs, B.bd.sl, B.bd.ln, xh, fun p hp => by cases hp⟩, B.sub, B.own, B.dis⟩, ?_⟩
          have run : SRun Y F Z H b G (hdR none (evSs Y.P (some x) s env h)) := run
          show SRun _ F Z H b G (evSs Y.P (some x) s env h)
          cases e : evSs Y.P (some x) s env h with
          | nx env2 h2 => rw [e] at run; exact fun σ' H' b' G' x' B' => run σ' H' b' G' x' (B.back hx x' B')
          | ct env2 h2 => rw [e] at run; exact fun σ' H' b' G' x' B' => run σ' H' b' G' x' (B.back hx x' B')
          | bk env2 h2 => rw [e] at run; exact fun σ' H' b' G' x' B' => run σ' H' b' G' x' (B.back hx x' B')
          | rt d o h2 => rw [e] at run; exact fun v H' b' G' x' => run v H' b' G' x'
          | exn y env2 h2 => rw [e] at run; exact False.elim run
          | bad => rw [e] at run; exact False.elim run
        | some i =>
          have hi : i < env.length := of_decide_eq_true ok
          have B1 := B.clr i (some (.ref a)) hx
          refine ⟨x, dd, rfl, rfl, env.set i none, h, b, G, F, ⟨⟨B1.bd.vs, B1.bd.sl, B1.bd.ln, xh, fun p hp => ?_⟩, B1.sub, B1.own, B1.dis⟩, ?_⟩
          · have hp : some (i, V.ref a) = some p := hp
            cases hp
            rw [List.getElem?_set_self (Nat.lt_of_lt_of_le hi B.bd.ln)]
          have run : SRun Y F Z H b G (hdR (some i) (evSs Y.P (some x) s (env.set i none) h)) := run
          show SRun _ F (clrD i Z) H b G (evSs Y.P (some x) s (env.set i none) h)
          cases e : evSs Y.P (some x) s (env.set i none) h with
          | nx env2 h2 => rw [e] at run; exact fun σ' H' b' G' x' B' => run _ H' b' G' x' ((B.back hx x' B').clr i none hx)
          | ct env2 h2 => rw [e] at run; exact fun σ' H' b' G' x' B' => run _ H' b' G' x' ((B.back hx x' B').clr i none hx)
          | bk env2 h2 => rw [e] at run; exact fun σ' H' b' G' x' B' => run _ H' b' G' x' ((B.back hx x' B').clr i none hx)
          | rt d o h2 => rw [e] at run; exact fun v H' b' G' x' => run v H' b' G' x'
          | exn y env2 h2 => rw [e] at run; exact False.elim run
          | bad => rw [e] at run; exact False.elim run
      · exact False.elim run
    · rw [hk] at run
      exact hs_run hx hsub B xa r run
theorem sem_try {s : Ss} {hs : Hs} (hx : Y.exv = none) (hsub : ∀ k c, PySem.W.exmOne Y.K.f (.ref (Y.ca k)) (.ref (Y.ca c)) = some (Y.P.sub k c)) (q : semS Y (.try_ s hs) Z σ H) : semSs (Y.w (wAll Y.K.f Y.W Z (clsL Y hs))) s Z σ H := by
  obtain ⟨env, h, b, G, F, B, run⟩ := q
  refine ⟨env, h, b, G, F, B.toW _, ?_⟩
  have run : SRun Y F Z H b G (match evSs Y.P Y.cx s env h with
    | .exn x env1 h1 => evHs Y.P x hs env1 h1
    | r => r) := run
  show SRun _ F Z H b G (evSs Y.P Y.cx s env h)
  cases e : evSs Y.P Y.cx s env h with
  | nx env2 h2 => rw [e] at run; exact fun σ' H' b' G' x' B' => run σ' H' b' G' x' B'.ofW
  | ct env2 h2 => rw [e] at run; exact fun σ' H' b' G' x' B' => run σ' H' b' G' x' B'.ofW
  | bk env2 h2 => rw [e] at run; exact fun σ' H' b' G' x' B' => run σ' H' b' G' x' B'.ofW
  | rt d o h2 => rw [e] at run; exact fun v H' b' G' x' => run v H' b' G' x'
  | exn y env2 h2 =>
    rw [e] at run
    have run : SRun Y F Z H b G (evHs Y.P y hs env2 h2) := run
    exact fun dd σ' H' b' G' x' B' xa => hs_run hx hsub B'.ofW xa hs (run.ext x')
  | bad => rw [e] at run; exact False.elim run
/-! ### raise C(e) -/
/-- what C's own __init__ does: the field f gets the value -/
def spI (K : PySem.W.Frag) (f : Str) : L2.Sp := fun vs H Q _ => ∃ a C v, vs = [.ref a, v] ∧ OexC K C ∧ PySem.W.findIn K (.ref C) f = some none ∧ H a = some (exo a C none) ∧ ∀ d, H d = none → d ≠ a → Q .non (upd (upd H d (exd d [(f, v)])) a (exo a C (some d)))
theorem sem_raise {c : Nat} {f : Str} {e : E} (hf : Y.P.fld c = some f) (T : OexC Y.K.f (Y.ca c)) (hn : PySem.W.findIn Y.K.f (.ref (Y.ca c)) f = some none) (q : semS Y (.raise c (.cons e .nil)) Z σ H) : tMkO (Y.ca c) (spI Y.K.f f) [] (semEs Y true (.cons e .nil)) σ H fun cls d H' => Y.W cls d σ H' := by
  obtain ⟨env, h, b, G, F, B, run⟩ := q
  have run : SRun Y F Z H b G ((evEs Y.P Y.cx true (.cons e .nil) env h).st env fun q => match Y.P.fld c, q.1 with
    | some x, [d] => .exn ⟨c, [(x, d)]⟩ env q.2
    | none, [] => .exn ⟨c, []⟩ env q.2
    | _, _ => .bad) := run
  refine ⟨env, h, b, G, B.bd, stR B run fun p H1 b1 ep x run vs ws ao => ?_⟩
  obtain ⟨ds, h1⟩ := p
  simp only [hf] at run
  split at run
  · rename_i f' d e1
    cases e1
    obtain ⟨w, rfl, rw'⟩ := ao.rep1
    have B1 := B.on x vs
    refine ⟨by show 1 ≤ 1000; decide, fun a ha => ⟨a, Y.ca c, w, rfl, T, hn, upd_same, fun dd hd ne => ?_⟩⟩
    have hd1 : H1 dd = none := by rw [upd_ne ne] at hd; exact hd
    refine ⟨rfl, dd, [(f, w)], upd_same, by rw [upd_ne ne, upd_same], hd1, ?_⟩
    have eH : upd (del (upd (upd (upd H1 a (exo a (Y.ca c) none)) dd (exd dd [(f, w)])) a (exo a (Y.ca c) (some dd))) a) dd (.xd [(f, w)]) = upd H1 dd (.xd [(f, w)]) := by
      funext p
      by_cases z : p = dd
      · rw [z, upd_same, upd_same]
      · rw [upd_ne z, upd_ne z]
        by_cases y : p = a
        · rw [y, del_same, ha]
        · rw [del_ne y, upd_ne y, upd_ne z, upd_ne y]
    rw [eH]
    have xl := Ext.laid (o := .xd [(f, w)]) vs hd1
    have vl := vs.laid (o := .xd [(f, w)]) hd1
    have B2 := B1.on xl vl
    refine run dd σ _ b1 G ((SExt.of x).trans (SExt.of xl)) B2 ⟨[(f, w)], upd_same, fun z => ?_, fun g d' z => ?_⟩
    · exact z.elim (vs.fresh hd1).1 (vs.fresh hd1).2
    · have z : List.lookup g [(f, d)] = some d' := z
      simp only [List.lookup] at z ⊢
      split at z
      · rename_i e3
        cases z
        exact ⟨w, rfl, rw'.kept xl.kept⟩
      · cases z
  · rename_i e1
    cases e1
  · exact False.elim run
end
end Rw

set_option maxHeartbeats 2000000
/-! L4a: what the text of an expression shows. -/
namespace Rw
open PySem PySem.Spec PyProof.Rows L2

def nStar : Expr → Bool
  | .Starred _ _ => false
  | _ => true
def nCall : Expr → Bool
  | .Call _ _ _ _ => false
  | _ => true
def nSlice : Expr → Bool
  | .Slice _ _ _ _ => false
  | _ => true
def nSet : Expr → Bool
  | .Set _ _ _ => false
  | _ => true
def nComp : Expr → Bool
  | .ListComp _ _ _ _ => false
  | .SetComp _ _ _ _ => false
  | .DictComp _ _ _ _ _ => false
  | _ => true
def nTup : Expr → Bool
  | .Tuple _ _ _ => false
  | _ => true
def nSq : Expr → Bool
  | .Tuple _ _ _ => false
  | .List _ _ => false
  | _ => true
/-- a test that is truthy of the value -/
def nTest : Expr → Bool
  | .UnaryOp .Not _ _ => false
  | .BoolOp _ _ _ => false
  | .IfExp _ _ _ _ => false
  | .Compare _ _ _ _ => false
  | _ => true
theorem star_cons {e : Expr} {es : List Expr} {env : PySem.Env} (h : nStar e = true) : starEach (e :: es) env = (false, eval e env) :: starEach es env := by
  cases e <;> first | rfl | (cases h)
theorem star_any {pos : Pos} {env : PySem.Env} : ∀ {es : List Expr}, es.all nStar = true → (backTo pos (starEach es env)).any (·.1) = false
  | [], _ => rfl
  | e :: es, h => by
    rw [List.all_cons, Bool.and_eq_true] at h
    rw [star_cons h.1]
    show (false || (backTo pos (starEach es env)).any (·.1)) = false
    rw [star_any h.2]; rfl
theorem star_all {pos : Pos} {env : PySem.Env} : ∀ {es : List Expr}, es.all nStar = true → (backTo pos (starEach es env)).all (fun x => !x.1) = true
  | [], _ => rfl
  | e :: es, h => by
    rw [List.all_cons, Bool.and_eq_true] at h
    rw [star_cons h.1]
    show (true && (backTo pos (starEach es env)).all (fun x => !x.1)) = true
    rw [star_all h.2]; rfl
theorem test_plain {e : Expr} {env : PySem.Env} (h : nTest e = true) (whole : Sem Value) : isTrue e env whole = (do let v ← whole; standAt e.pos; holding [v] (truthy v)) := by
  cases e <;> first
    | rfl
    | (cases h; done)
    | (rename_i op _ _; cases op <;> first | rfl | cases h)
theorem ix_plain {e : Expr} (h : nSlice e = true) : PlainIx e := by
  intro o i
  cases e <;> first | rfl | (cases h)
theorem swap_plain {e : Expr} {t : Option Expr} {n : Nat} {env : PySem.Env} (h : nComp e = true) : swapsWith e t n env = pure false := by
  cases e <;> first | rfl | (cases h)
theorem stores_plain {t e : Expr} {env : PySem.Env} (h : (nSq t || nTup e) = true) : swappedStores [t] e env = pure none := by
  cases t <;> first
    | rfl
    | (cases e <;> first | rfl | (cases h))
theorem base_plain {o : Expr} {m : Str} {env : PySem.Env} {w : Sem Value} (h : nCall o = true) : attributeBase o m env w = w := by
  cases o <;> first | rfl | (cases h)
theorem fold_plain {e : Expr} {env : PySem.Env} (h : nSet e = true) (x : Value) : foldedSetIterable e env x = pure x := by
  cases e <;> first | rfl | (cases h)
theorem marks_plain {e : Expr} {op : CmpOp} (h : nSet e = true) : behindInMarks op e = false := by
  cases e <;> first | rfl | (cases h)
theorem marks2 {b c : Expr} {op op' : CmpOp} (h : nSet c = true) : lastMarks [op, op'] [b, c] = false := marks_plain h
theorem marks3 {b c d : Expr} {op op' op'' : CmpOp} (h : nSet d = true) : lastMarks [op, op', op''] [b, c, d] = false := marks_plain h
theorem kw_some {pos : Pos} {env : PySem.Env} : ∀ {kws : List Keyword}, kws.all (fun k => k.arg.isSome) = true → (backToKw pos (keywordEach kws env)).all (·.1.isSome) = true ∧ (backToKw pos (keywordEach kws env)).any (·.1.isNone) = false
  | [], _ => ⟨rfl, rfl⟩
  | ⟨n, e, p⟩ :: r, h => by
    rw [List.all_cons, Bool.and_eq_true] at h
    obtain ⟨i1, i2⟩ := kw_some (pos := pos) (env := env) h.2
    cases n with
    | none => cases h.1
    | some n => exact ⟨i1, i2⟩
theorem kw_names {pos : Pos} {env : PySem.Env} : ∀ {kws : List Keyword}, (backToKw pos (keywordEach kws env)).filterMap (·.1) = kws.filterMap (·.arg)
  | [] => rfl
  | ⟨n, e, p⟩ :: r => by
    have ih := kw_names (pos := pos) (env := env) (kws := r)
    cases n with
    | none => exact ih
    | some n => exact congrArg (n :: ·) ih
/-! ### names -/
def visB (sc : Scope) (x : Str) : Bool := match sc.names.lookup x with
  | some .local => true
  | some .cell => true
  | some .free => true
  | _ => false
theorem visB_ok {sc : Scope} {x : Str} (h : visB sc x = true) : Vis sc x := by
  unfold visB at h
  split at h
  · rename_i e; exact .inl e
  · rename_i e; exact .inr (.inl e)
  · rename_i e; exact .inr (.inr e)
  · cases h
def glB (sc : Scope) (x : Str) : Bool := decide (sc.names.lookup x = some .globalImplicit) && !(x == ("__debug__" : Str))
theorem glB_ok {X : Cx} {sc : Scope} {x : Str} (hs : X.env.scope = sc) (h : glB sc x = true) : Gl X x ∧ (x == ("__debug__" : Str)) = false := by
  unfold glB at h
  rw [Bool.and_eq_true, decide_eq_true_iff] at h
  exact ⟨by show X.env.scope.names.lookup x = _; rw [hs]; exact h.1, by simpa using h.2⟩
/-! ### blocks of comprehensions -/
def relN (sc : Scope) (scope : Scope) : Scope := { scope with names := scope.names.map fun (n, k) => if (k == .free && sc.kind == .function && sc.names.lookup n == some .cell) then (n, .cell) else (n, k) }
theorem rel_env {env : PySem.Env} {scope : Scope} {C : Addr} {cl : List (Str × Addr)} : (compEnvC scope cl C env).scope = relN env.scope scope := rfl
def blkB (N : List Str) (sc scope : Scope) (own : List Nat) : Bool :=
  decide (scope.kind = .function) && scope.names.all (fun y => decide (scope.names.lookup y.1 = some y.2)) && own.all (fun i => decide (i < N.length)) &&
  scope.names.all (fun y => y.2 != .free || decide (sc.names.lookup y.1 = some .cell) || decide (sc.names.lookup y.1 = some .free)) &&
  scope.names.all (fun y => !(y.2 == .local || y.2 == .cell) || (own.any fun i => N[i]? == some y.1) || !(N.contains y.1))
def ownP (N : List Str) (own : List Nat) : List (Str × Nat) := own.map fun i => ((N[i]?).getD "", i)
theorem ownP_snd (N : List Str) (own : List Nat) : (ownP N own).map (·.2) = own := by
  unfold ownP
  rw [List.map_map]
  exact List.map_id' own
theorem blkB_ok {N : List Str} {sc scope : Scope} {own : List Nat} (h : blkB N sc scope own = true) : BlkOk N sc scope (ownP N own) := by
  unfold blkB at h
  rw [Bool.and_eq_true, Bool.and_eq_true, Bool.and_eq_true, Bool.and_eq_true] at h
  obtain ⟨⟨⟨⟨h1, h2⟩, h3⟩, h4⟩, h5⟩ := h
  rw [List.all_eq_true] at h2 h3 h4 h5
  refine ⟨of_decide_eq_true h1, fun y hy => of_decide_eq_true (h2 y hy), fun p hp => ?_, fun y hy hf => ?_, fun y hy hl => ?_⟩
  · obtain ⟨i, hi, rfl⟩ := List.mem_map.mp hp
    have := of_decide_eq_true (h3 i hi)
    simp [this]
  · have := h4 y hy
    rw [Bool.or_eq_true, Bool.or_eq_true, decide_eq_true_iff, decide_eq_true_iff] at this
    rcases this with (q | q) | q
    · rw [hf] at q; cases q
    · exact .inl q
    · exact .inr q
  · have := h5 y hy
    rw [Bool.or_eq_true, Bool.or_eq_true] at this
    rcases this with (q | q) | q
    · rcases hl with hl | hl <;> (rw [hl] at q; cases q)
    · obtain ⟨i, hi, e⟩ := List.any_eq_true.mp q
      refine .inl (List.mem_map.mpr ⟨(y.1, i), ?_, rfl⟩)
      exact List.mem_map.mpr ⟨i, hi, by rw [eq_of_beq e]; rfl⟩
    · refine .inr fun m => ?_
      have : N.contains y.1 = true := List.contains_iff_mem.mpr m
      rw [this] at q
      cases q
end Rw

set_option maxHeartbeats 4000000
/-! L4b: the checker of expressions. -/
namespace Rw
open PySem PySem.Spec PyProof.Rows L2

structure Ck where
  N : List Str
  sc : Scope
  fb : Str → Bool
  calm : Bool
  gl : Nat → Option Str
  fi : Nat → Option (Str × List Str)
  ci : Nat → Option Str
  fl : List Str
  kw : Nat → List (Nat × List Str × List Nat)
  exv : Option Nat
def Ck.blk (C : Ck) (scope : Scope) : Ck := { C with sc := relN C.sc scope, fb := fun x => scope.names.lookup x == some .cell, exv := none }
def bltName : Blt → Str
  | .len => "len" | .abs => "abs" | .int => "int" | .max1 => "max" | .max2 => "max" | .min1 => "min" | .min2 => "min" | .sum => "sum" | .all => "all" | .any => "any" | .sorted => "sorted"
  | .list => "list" | .tuple => "tuple" | .set => "set" | .str => "str" | .repr => "repr" | .isi _ => "isinstance"
def bltNames : List Str := ["len", "abs", "int", "max", "min", "sum", "all", "any", "sorted", "list", "tuple", "str", "repr", "isinstance", "bool", "dict", "range", "enumerate", "zip"]
def ofN (C : Ck) (n : Str) (y : Str) : Bool := y == n && glB C.sc n && bltNames.contains n
def chkVar (C : Ck) (i : Nat) : Expr → Bool
  | .Name y _ => decide (C.N[i]? = some y) && visB C.sc y && !(y == ("__debug__" : Str)) && !(y == ("__classdict__" : Str))
  | _ => false
def chkCon : D → Expr → Bool
  | .int i, .Constant (.int j) _ _ => i == j
  | .bl i, .Constant (.bool j) _ _ => i == j
  | .str i, .Constant (.str j) _ _ => i == j
  | .non, .Constant .none _ _ => true
  | _, _ => false
def chkGlo (C : Ck) (i : Nat) : Expr → Bool
  | .Name y _ => decide (C.gl i = some y) && glB C.sc y
  | _ => false
def chkDsp : Es → Es → Expr → Bool
  | .nil, .nil, .Dict [] [] _ => true
  | .cons (.con (.str k)) .nil, .cons (.con d) .nil, .Dict [some (.Constant (.str k') _ _)] [v] _ => k == k' && chkCon d v
  | _, _, _ => false
def chkTy (C : Ck) (t : Nat) : Expr → Bool
  | .Name y _ => decide (t ≤ 5) && ofN C (kName t) y
  | _ => false
def chkTys (C : Ck) : List Nat → List Expr → Bool
  | [], [] => true
  | t :: ts, x :: xs => chkTy C t x && chkTys C ts xs
  | _, _ => false
def chkIsi (C : Ck) : List Nat → Expr → Bool
  | [t], .Name y p => chkTy C t (.Name y p)
  | ts, .Tuple xs _ _ => decide (ts.length ≤ 10) && chkTys C ts xs
  | _, _ => false
def chkFld (C : Ck) (f : Str) : Expr → Bool
  | .Attribute (.Name y p) n _ => n == f && C.fl.contains f && (match C.exv with
    | some i => chkVar C i (.Name y p)
    | none => false)
  | _ => false
def chkFn (C : Ck) (f np : Nat) (y : Str) : Bool := C.calm && match C.fi f with
  | some (z, ps) => z == y && glB C.sc y && ps.length == np
  | none => false
def tailOf (op : BoolOp) (b : Expr) (rest : List Expr) (pos : Pos) : Expr := match rest with
  | [] => b
  | _ => .BoolOp op (b :: rest) pos
def calmB : Blt → Bool
  | .max1 => true | .max2 => true | .min1 => true | .min2 => true | .sum => true | .all => true | .any => true
  | _ => false
def oneB : Blt → Bool
  | .max1 => true | .min1 => true
  | _ => false
def nIsi : Blt → Bool
  | .isi _ => false
  | .set => false
  | _ => true
def nHeap : E → Bool
  | .heap _ => false
  | _ => true
def isYes : E → Bool
  | .yes => true
  | _ => false
mutual
def chkE : Ck → E → Expr → Bool
  | C, .var i, x => chkVar C i x
  | C, .con d, x => chkCon d x
  | C, .glo i, x => chkGlo C i x
  | _, .yes, _ => false
  | C, .tup es, x => match x with
    | .Tuple xs _ _ => chkEs C es xs
    | _ => false
  | C, .lst es, x => match x with
    | .List xs _ => chkEs C es xs
    | _ => false
  | C, .dsp ks vs, x => chkDsp ks vs x
  | C, .neg a, x => match x with
    | .UnaryOp .USub y _ => chkE C a y
    | _ => false
  | C, .not_ a, x => match x with
    | .UnaryOp .Not y _ => chkE C a y
    | _ => false
  | C, .bin o a b, x => match x with
    | .BinOp l op r _ => decide (op = pyOp o) && chkE C a l && chkE C b r
    | _ => false
  | C, .cmp o a b, x => match x with
    | .Compare l [op] [r] _ => decide (op = pyCm o) && nSet r && chkE C a l && chkE C b r
    | _ => false
  | C, .chain o p a b c, x => match x with
    | .Compare l [op, op'] [r, r'] _ => decide (op = pyCm o) && decide (op' = pyCm p) && nSet r' && chkE C a l && chkE C b r && chkE C c r'
    | _ => false
  | C, .chain3 o p q a b c d, x => match x with
    | .Compare l [op, op', op''] [r, r', r''] _ => decide (op = pyCm o) && decide (op' = pyCm p) && decide (op'' = pyCm q) && nSet r'' && chkE C a l && chkE C b r && chkE C c r' && chkE C d r''
    | _ => false
  | C, .and_ a b, x => match x with
    | .BoolOp .And (l :: r :: rest) pos => chkE C a l && chkE C b (tailOf .And r rest pos)
    | _ => false
  | C, .or_ a b, x => match x with
    | .BoolOp .Or (l :: r :: rest) pos => chkE C a l && chkE C b (tailOf .Or r rest pos)
    | _ => false
  | C, .ife c a b, x => match x with
    | .IfExp t l r _ => chkE C c t && chkE C a l && chkE C b r
    | _ => false
  | C, .call f es, x => match x with
    | .Call (.Name y _) args [] _ => (match esLen es with
      | some n => chkFn C f n y
      | none => false) && args.all nStar && chkEs C es args
    | _ => false
  | C, .callk f es ks perm, x => match x with
    | .Call (.Name y _) args kws _ => chkFn C f perm.length y && args.all nStar && kws.all (fun k => k.arg.isSome) && (C.kw f).contains (args.length, kws.filterMap (·.arg), perm) && chkEs C es args && chkKs C ks kws
    | _ => false
  | C, .blt b es, x => match x with
    | .Call (.Name y _) args kws _ => ofN C (bltName b) y && (C.calm || !calmB b) && (match b, es, args, kws with
      | .isi ts, .cons e .nil, [a, t], [] => nStar a && chkE C e a && chkIsi C ts t
      | .isi _, _, _, _ => false
      | .max1, .cons e (.cons d .nil), [a], [⟨some n, dv, _⟩] => n == ("default" : Str) && nStar a && chkE C e a && chkE C d dv
      | .min1, .cons e (.cons d .nil), [a], [⟨some n, dv, _⟩] => n == ("default" : Str) && nStar a && chkE C e a && chkE C d dv
      | b, es, a :: args, [] => nIsi b && (!oneB b || decide (esLen es = some 1)) && (a :: args).all nStar && chkEs C es (a :: args)
      | _, _, _, _ => false)
    | _ => false
  | C, .mth m a es, x => match x with
    | .Call (.Attribute o name apos) args [] cpos => name == mtName m && nCall o && args.all nStar && decide (args.length < 30) && (apos.endLine == cpos.line) && chkE C a o && chkEs C es args
    | _ => false
  | C, .idx a i, x => match x with
    | .Subscript o s _ => nSlice s && chkE C a o && chkE C i s
    | _ => false
  | C, .cutE a lo hi, x => match x with
    | .Subscript o (.Slice l u none _) _ => chkE C a o && chkO C lo l && chkO C hi u
    | _ => false
  | C, .rev a, x => match x with
    | .Subscript o (.Slice none none (some (.UnaryOp .USub (.Constant (.int 1) _ _) _)) _) _ => chkE C a o
    | _ => false
  | C, .lc e t w c own, x => match x with
    | .ListComp elt [⟨tg, it, ifs, 0⟩] scope _ => C.calm && blkB C.N C.sc scope own && (tgSlots t).all own.contains && (!prW w || !isN t) && nSet it && chkI C w it tg && chkT C.N (C.blk scope).sc (C.blk scope).fb t tg && (match ifs with
      | [] => isYes c
      | [z] => chkE (C.blk scope) c z
      | _ => false) && chkE (C.blk scope) e elt
    | _ => false
  | C, .sc e t w c own, x => match x with
    | .SetComp elt [⟨tg, it, ifs, 0⟩] scope _ => C.calm && blkB C.N C.sc scope own && (tgSlots t).all own.contains && (!prW w || !isN t) && nSet it && chkI C w it tg && chkT C.N (C.blk scope).sc (C.blk scope).fb t tg && (match ifs with
      | [] => isYes c
      | [z] => chkE (C.blk scope) c z
      | _ => false) && chkE (C.blk scope) e elt
    | _ => false
  | C, .lc2 e t w c t1 w1 c1 own own1, x => match x with
    | .ListComp elt [⟨tg, it, ifs, 0⟩, ⟨tg1, it1, ifs1, 0⟩] scope _ => C.calm && blkB C.N C.sc scope own && own1.all own.contains && (tgSlots t).all own.contains && (tgSlots t1).all own1.contains && (!prW w || !isN t) && (!prW w1 || !isN t1) && nSet it && nSet it1 && chkI C w it tg && chkI (C.blk scope) w1 it1 tg1 &&
      chkT C.N (C.blk scope).sc (C.blk scope).fb t tg && chkT C.N (C.blk scope).sc (C.blk scope).fb t1 tg1 && (match ifs with
      | [] => isYes c
      | [z] => chkE (C.blk scope) c z
      | _ => false) && (match ifs1 with
      | [] => isYes c1
      | [z] => chkE (C.blk scope) c1 z
      | _ => false) && chkE (C.blk scope) e elt
    | _ => false
  | C, .heap e, x => nTest x && nHeap e && chkE C e x
  | C, .fld f, x => chkFld C f x
  | C, .ofIt tup w, x => C.calm && (match x with
    | .Call (.Name y _) [.Call (.Name z _) args [] _] [] _ => ofN C (if tup then "tuple" else "list") y && ofN C "range" z && (match w, args with
      | .rng1 a, [l] => nStar l && chkE C a l
      | .rng2 a b, [l, r] => nStar l && nStar r && chkE C a l && chkE C b r
      | _, _ => false)
    | _ => false)
def chkO : Ck → Oe → Option Expr → Bool
  | _, .no, none => true
  | C, .yes e, some x => chkE C e x
  | _, _, _ => false
def chkEs : Ck → Es → List Expr → Bool
  | _, .nil, [] => true
  | C, .cons e r, x :: xs => nStar x && chkE C e x && chkEs C r xs
  | C, .star e r, .Starred x _ :: xs => chkE C e x && chkEs C r xs
  | _, _, _ => false
def chkKs : Ck → Es → List Keyword → Bool
  | _, .nil, [] => true
  | C, .cons e r, ⟨_, x, _⟩ :: xs => chkE C e x && chkKs C r xs
  | _, _, _ => false
def chkI : Ck → It → Expr → Expr → Bool
  | C, .seq e, x, _ => chkE C e x
  | C, .rng1 a, x, _ => match x with
    | .Call (.Name y _) [l] [] _ => ofN C "range" y && nStar l && chkE C a l
    | _ => false
  | C, .rng2 a b, x, _ => match x with
    | .Call (.Name y _) [l, r] [] _ => ofN C "range" y && nStar l && nStar r && chkE C a l && chkE C b r
    | _ => false
  | C, .enum a, x, tg => match x with
    | .Call (.Name y _) [l] [] _ => ofN C "enumerate" y && nStar l && !nTup tg && chkE C a l
    | _ => false
  | C, .zip a b, x, tg => match x with
    | .Call (.Name y _) [l, r] [] _ => ofN C "zip" y && nStar l && nStar r && !nTup tg && chkE C a l && chkE C b r
    | _ => false
end
end Rw

set_option maxHeartbeats 4000000
/-! L4c: what surrounds; the simple forms. -/
namespace Rw
open PySem PySem.Spec PyProof.Rows L2

/-- a def of the table, by its name -/
def FnAt (X : Cx) (Y : Sx) (kw : List (Nat × List Str × List Nat)) (f : Nat) (x : Str) (ps : List Str) : Prop := ∃ (k : Nat) (fa : Addr) (fd : FuncData), X.mg x = some (.ref fa) ∧ PySem.W.keepIn X.K (.ref fa) = true ∧ RoomK k X.A ∧
  FnK X.prog X.w X.K X.mg X.base (L2.CX X.prog X.w) k fa fd ps (spOf Y.K Y.ca Y.P.call f ps.length) ∧ posBinds X.K fd ps ∧
  ∀ (n : Nat) (ks : List Str) (perm : List Nat), (n, ks, perm) ∈ kw → KBinds X.K fd ps ks (fun us ws => if us.length = n then permV perm (us ++ ws) else []) (fun vs zs => if vs.length = n then permV perm (vs ++ zs) else [])
structure GX (X : Cx) (Y : Sx) (C : Ck) : Prop where
  hK : Y.K = kx X
  hN : X.N = C.N
  nd : C.N.Nodup
  sc : X.env.scope = C.sc
  kd : C.sc.kind = .function
  fn : ∀ y, C.fb y = true → X.fn y = true
  cm : C.calm = true → X.calm = true
  un : X.A.units + 80 < cLine
  gd : X.A.guards = some []
  tk : Takes X Y.W
  blt : ∀ x, bltNames.contains x = true → X.mg x = none
  gls : ∀ i x, C.gl i = some x → ∃ u v, X.mg x = some u ∧ RelV v u ∧ ∀ d, Y.P.gl i = some d → ∀ {H : HpC} {W : Addr → Prop} {b : List Addr}, Rep Y.K H W b v d
  fns : C.calm = true → ∀ f x ps, C.fi f = some (x, ps) → FnAt X Y (C.kw f) f x ps
  su : ∀ i, C.exv = some i → ∃ (X0 : Cx) (a : Addr) (oe : Obj) (pn : List (Addr × Obj)) (c : Nat), X = X0.suite a ((a, oe) :: pn) ∧ Y.exv = some (i, .ref a) ∧ Zc (.ref (Y.ca c)) (some Y.dd) oe ∧ (∃ vs, oe.data = .fields vs) ∧ (∀ e, Y.cx = some e → e.cls = c) ∧ XfC X.K (Y.ca c) ∧ ∀ f, C.fl.contains f = true → PySem.W.findIn X.K (.ref (Y.ca c)) f = some none
structure EOk (X : Cx) (Y : Sx) (e : E) (x : Expr) : Prop where
  pe : ∀ cap, PE X x (semE Y cap e)
  pt : PT X x (semB Y e)
  pw : ∀ op vs pos, x = .BoolOp op vs pos → PW X x (semB Y e)
theorem boot_all : ∀ x, bltNames.contains x = true → x ≠ "__name__" := by
  intro x h e
  rw [e] at h
  revert h
  decide +kernel
section
variable {X : Cx} {Y : Sx} {C : Ck}
theorem GX.of (g : GX X Y C) {n y : Str} (h : ofN C n y = true) : y = n ∧ Gl X n ∧ X.mg n = none ∧ n ≠ "__name__" ∧ (n == ("__debug__" : Str)) = false := by
  unfold ofN at h
  rw [Bool.and_eq_true, Bool.and_eq_true] at h
  obtain ⟨⟨h1, h2⟩, h3⟩ := h
  obtain ⟨g1, g2⟩ := glB_ok g.sc h2
  exact ⟨eq_of_beq h1, g1, g.blt n h3, boot_all n h3, g2⟩
theorem EOk.plain {e : E} {x : Expr} (h : ∀ cap, PE X x (semE Y cap e)) (n : nTest x = true) : EOk X Y e x := by
  refine ⟨h, ((pt_val (h false) (fun w => test_plain n w)).imp fun σ H Q q => semB_E q), fun op vs pos z => ?_⟩
  subst z
  cases n
theorem var_pe (g : GX X Y C) {i : Nat} {x : Expr} (h : chkVar C i x = true) : PE X x (tVar i) ∧ nTest x = true := by
  cases x with
  | Name y pos =>
    simp only [chkVar, Bool.and_eq_true, decide_eq_true_iff, Bool.not_eq_true'] at h
    exact ⟨pe_var (by rw [g.hN]; exact h.1.1.1) (by rw [g.sc]; exact visB_ok h.1.1.2) h.1.2 h.2, rfl⟩
  | _ => cases h
theorem var_ok (g : GX X Y C) {i : Nat} {x : Expr} (h : chkVar C i x = true) : EOk X Y (.var i) x :=
  .plain (fun cap => (var_pe g h).1.imp fun σ H Q => sem_var) (var_pe g h).2
theorem con_pe {d : D} {x : Expr} (h : chkCon d x = true) : ∃ v, PE X x (tC v) ∧ nTest x = true ∧ ∀ {K : Kx} {H : HpC} {W : Addr → Prop} {b : List Addr}, Rep K H W b v d := by
  unfold chkCon at h
  split at h
  · rename_i i j _ _
    have e := eq_of_beq h
    subst e
    exact ⟨.int i, pe_int, rfl, .int _⟩
  · rename_i i j _ _
    have e := eq_of_beq h
    subst e
    exact ⟨.bl i, pe_bl, rfl, .bl _⟩
  · rename_i i j _ _
    have e := eq_of_beq h
    subst e
    exact ⟨.str i, pe_str, rfl, .str _⟩
  · exact ⟨.non, pe_non, rfl, .non⟩
  · cases h
theorem con_ok {d : D} {x : Expr} (h : chkCon d x = true) : EOk X Y (.con d) x := by
  obtain ⟨v, p, n, r⟩ := con_pe (X := X) h
  exact .plain (fun cap => p.imp fun σ H Q => sem_con r) n
theorem glo_ok (g : GX X Y C) {i : Nat} {x : Expr} (h : chkGlo C i x = true) : EOk X Y (.glo i) x := by
  cases x with
  | Name y pos =>
    simp only [chkGlo, Bool.and_eq_true, decide_eq_true_iff] at h
    obtain ⟨u, v, m, r, rp⟩ := g.gls i y h.1
    obtain ⟨g1, g2⟩ := glB_ok g.sc h.2
    exact .plain (fun cap => (pe_glob g1 m r g2).imp fun σ H Q => sem_glo rp) rfl
  | _ => cases h
theorem dsp_ok {ks vs : Es} {x : Expr} (h : chkDsp ks vs x = true) : EOk X Y (.dsp ks vs) x := by
  unfold chkDsp at h
  split at h
  · exact .plain (fun cap => pe_dnewK.imp fun σ H Q => sem_dnew) rfl
  · rename_i k d k' _ _ v _
    rw [Bool.and_eq_true] at h
    have e := eq_of_beq h.1
    subst e
    obtain ⟨u, p, n, r⟩ := con_pe (X := X) h.2
    exact .plain (fun cap => (pe_disp (pps_cons pe_str p pps_nil) rfl rfl (by simp) (by simp)).imp fun σ H Q => sem_disp r) rfl
  · cases h
theorem ty_pe (g : GX X Y C) {t : Nat} {x : Expr} (h : chkTy C t x = true) : PE X x (tC (.ty (kName t))) ∧ t ≤ 5 ∧ nStar x = true := by
  cases x with
  | Name y pos =>
    simp only [chkTy, Bool.and_eq_true, decide_eq_true_iff] at h
    obtain ⟨ht, hn⟩ := h
    obtain ⟨e, g1, g2, g3, g4⟩ := g.of hn
    subst e
    have hv : bootBuiltins (kName t : String) = some (.type (kName t)) := by
      rcases t with _ | _ | _ | _ | _ | _ | t
      · exact boot_int
      · exact boot_bool
      · exact boot_str
      · exact boot_list
      · exact boot_tuple
      · exact boot_dict
      · omega
    exact ⟨pe_bltn g1 g2 hv rfl g3 g4, ht, rfl⟩
  | _ => cases h
def tTys (ts : List Nat) : TA := fun σ H Q => Q (ts.map fun t => V.ty (kName t)) H
theorem tys_pa (g : GX X Y C) : ∀ {ts : List Nat} {xs : List Expr}, chkTys C ts xs = true → PA X xs (tTys ts) ∧ ∀ t ∈ ts, t ≤ 5
  | [], [], _ => ⟨pa_nil, fun _ z => by cases z⟩
  | [], _ :: _, h => by cases h
  | _ :: _, [], h => by cases h
  | t :: ts, x :: xs, h => by
    simp only [chkTys, Bool.and_eq_true] at h
    obtain ⟨p, ht, n⟩ := ty_pe g h.1
    obtain ⟨q, hts⟩ := tys_pa g h.2
    exact ⟨pa_cons p q (star_cons n), fun u z => (List.mem_cons.mp z).elim (fun e => e ▸ ht) (hts u)⟩
theorem isi_ok (g : GX X Y C) {ts : List Nat} {e : E} {a t : Expr} {y : Str} {p pos : Pos} (hy : ofN C "isinstance" y = true) (na : nStar a = true) (ha : EOk X Y e a) (h : chkIsi C ts t = true) : EOk X Y (.blt (.isi ts) (.cons e .nil)) (.Call (.Name y p) [a, t] [] pos) := by
  obtain ⟨e, g1, g2, g3, g4⟩ := g.of hy
  subst e
  unfold chkIsi at h
  split at h
  · rename_i t z pz
    obtain ⟨pt, ht, n⟩ := ty_pe g h
    exact .plain (fun cap => (pe_callB call_isi g1 g2 boot_isinstance (pa_cons (ha.pe false) (pa_cons pt pa_nil (star_cons n)) (star_cons na)) g3 g4 (star_cons na) (by rw [star_cons n]; rfl)).imp fun σ H Q q => sem_isi ht g.hK q) rfl
  · rename_i xs _ _ _
    rw [Bool.and_eq_true, decide_eq_true_iff] at h
    obtain ⟨q, hts⟩ := tys_pa g h.2
    refine .plain (fun cap => (pe_callB call_isiT g1 g2 boot_isinstance (pa_cons (ha.pe false) (pa_cons (pe_tup q) pa_nil (star_cons rfl)) (star_cons na)) g3 g4 (star_cons na) (by rw [star_cons rfl]; rfl)).imp fun σ H Q q => sem_isiT hts g.hK (fun _ _ _ q => q) h.1 q) rfl
  · cases h
theorem fld_ok (g : GX X Y C) {f : Str} {x : Expr} (h : chkFld C f x = true) : EOk X Y (.fld f) x := by
  unfold chkFld at h
  split at h
  · rename_i y p n pos
    rw [Bool.and_eq_true, Bool.and_eq_true] at h
    obtain ⟨⟨e, hf⟩, h⟩ := h
    have e := eq_of_beq e
    subst e
    split at h
    · rename_i i ei
      have vp := (var_pe g h).1
      obtain ⟨X0, a, oe, pn, c, eX, e1, zc, hd, hc, T, hn⟩ := g.su i ei
      subst eX
      refine .plain (fun cap => (pe_xf T (hn _ hf) zc hd vp (base_plain rfl)).imp fun σ H Q q => ?_) rfl
      exact sem_fld (te := tVar i) g.hK e1 (fun e he => by rw [hc e he]) q
    · cases h
  · cases h
end
end Rw

set_option maxHeartbeats 4000000
/-! L4d: calls of built-ins. -/
namespace Rw
open PySem PySem.Spec PyProof.Rows L2

/-- max, min of one thing -/
def rB1 (K : Kx) (ca : Nat → Addr) (f : List D → Hp → RV) : List V → HpC → VK → Prop := fun xs H Q => ∃ d h b G E cap, VS K H b G h ∧ Vws K H b G xs [d] ∧ Run K ca cap H b G (f [d] h) Q E
theorem sem_blt1 {Y : Sx} {t : Blt} {es : Es} {cap : Bool} {σ : L2.St} {H : HpC} {Q : VK} (hl : esLen es = some 1) (q : semE Y cap (.blt t es) σ H Q) : tCB (rB1 Y.K Y.ca (evB t)) (semEs Y false es) σ H Q := by
  obtain ⟨env, h, b, G, B, run⟩ := q
  refine ⟨env, h, b, G, B, ?_⟩
  have run : Run Y.K Y.ca cap H b G ((evEs Y.P Y.cx false es env h).bind fun r => evB t r.1 r.2) Q (WE Y.W σ) := run
  refine finRun.stepR run fun p H' b' ep x run s vs ao => ?_
  have l := evEs_len hl ep
  obtain ⟨ds, h1⟩ := p
  match ds, l with
  | [d], _ => exact ⟨d, h1, b', G, _, cap, s, ao.vws, run⟩
def bltV : Blt → Option Value
  | .len => some (.builtin "len") | .abs => some (.builtin "abs") | .int => some (.type "int") | .max1 => some (.builtin "max") | .max2 => some (.builtin "max") | .min1 => some (.builtin "min") | .min2 => some (.builtin "min")
  | .sum => some (.builtin "sum") | .all => some (.builtin "all") | .any => some (.builtin "any") | .sorted => some (.builtin "sorted") | .list => some (.type "list") | .tuple => some (.type "tuple") | .set => none | .str => some (.type "str")
  | .repr => some (.builtin "repr") | .isi _ => none
theorem boot_blt {t : Blt} {u : Value} (h : bltV t = some u) : bootBuiltins (bltName t) = some u := by
  cases t <;> cases h <;> decide +kernel
section
variable {X : Cx} {Y : Sx} {C : Ck} {ca : Nat → Addr}
theorem blt_call (g : GX X Y C) {t : Blt} {u : Value} (hc : (C.calm || !calmB t) = true) (h : bltV t = some u) (n : oneB t = false) : CallR X u (rB (kx X) ca (evB t)) := by
  have cm : calmB t = true → X.calm = true := fun z => by
    rw [z] at hc
    exact g.cm (by simpa using hc)
  cases t <;> first
    | (cases n; done)
    | (cases h; done)
    | skip
  all_goals cases h
  · exact b_len
  · exact b_abs
  · exact b_int
  · exact b_max2 (cm rfl)
  · exact b_min2 (cm rfl)
  · exact b_sum (cm rfl)
  · exact b_all (cm rfl)
  · exact b_any (cm rfl)
  · exact b_sorted g.un
  · exact b_list
  · exact b_tuple
  · exact b_str
  · exact b_repr g.gd g.un
theorem blt_call1 (g : GX X Y C) {t : Blt} {u : Value} (hc : (C.calm || !calmB t) = true) (h : bltV t = some u) (n : oneB t = true) : CallR X u (rB1 (kx X) ca (evB t)) := by
  have cm : calmB t = true → X.calm = true := fun z => by
    rw [z] at hc
    exact g.cm (by simpa using hc)
  cases t <;> first
    | (cases n; done)
    | skip
  all_goals cases h
  · exact b_max1 (cm rfl) g.un
  · exact b_min1 (cm rfl) g.un
theorem pe_callV {x : Str} {u : Value} {p pos : Pos} {e : Expr} {es : List Expr} {r : List V → HpC → VK → Prop} {t : TA} (hu : ∃ T, u = .builtin T ∨ u = .type T) (hc : CallR X u r) (hg : Gl X x) (hm : X.mg x = none) (hv : bootBuiltins x = some u) (ha : PA X (e :: es) t) (hn : x ≠ "__name__") (hd : (x == ("__debug__" : Str)) = false) (hs : (e :: es).all nStar = true) :
    PE X (.Call (.Name x p) (e :: es) [] pos) (tCB r t) := by
  rw [List.all_cons, Bool.and_eq_true] at hs
  obtain ⟨T, rfl | rfl⟩ := hu
  · exact pe_callB hc hg hm hv ha hn hd (star_cons hs.1) (star_any hs.2)
  · exact pe_callTy hc hg hm hv ha hn hd (star_cons hs.1) (star_any hs.2)
theorem bltV_kind {t : Blt} {u : Value} (h : bltV t = some u) : ∃ T, u = .builtin T ∨ u = .type T := by
  cases t <;> cases h <;> exact ⟨_, by first | exact .inl rfl | exact .inr rfl⟩
theorem blt_ok (g : GX X Y C) {t : Blt} {es : Es} {a : Expr} {args : List Expr} {y : Str} {p pos : Pos} (hy : ofN C (bltName t) y = true) (hc : (C.calm || !calmB t) = true) (h1 : (!oneB t || decide (esLen es = some 1)) = true) (hs : (a :: args).all nStar = true) (hi : ∀ ts, t ≠ .isi ts) (hset : t ≠ .set)
    (ha : PA X (a :: args) (semEs Y false es)) : EOk X Y (.blt t es) (.Call (.Name y p) (a :: args) [] pos) := by
  obtain ⟨e, g1, g2, g3, g4⟩ := g.of hy
  subst e
  have hu : ∃ u, bltV t = some u := by
    cases t <;> first | exact ⟨_, rfl⟩ | exact absurd rfl (hi _) | exact absurd rfl hset
  obtain ⟨u, hu⟩ := hu
  refine .plain (fun cap => ?_) rfl
  cases n : oneB t with
  | true =>
    rw [n] at h1
    have hl : esLen es = some 1 := of_decide_eq_true (by simpa using h1)
    refine (pe_callV (bltV_kind hu) (blt_call1 (ca := Y.ca) g hc hu n) g1 g2 (boot_blt hu) ha g3 g4 hs).imp fun σ H Q q => ?_
    have := sem_blt1 hl q
    rw [g.hK] at this
    exact this
  | false =>
    refine (pe_callV (bltV_kind hu) (blt_call (ca := Y.ca) g hc hu n) g1 g2 (boot_blt hu) ha g3 g4 hs).imp fun σ H Q q => ?_
    have := sem_blt q
    rw [g.hK] at this
    exact this
theorem es_nil {cap : Bool} : PA X [] (semEs Y cap .nil) := pa_nil.imp fun σ H Q => sem_nil
theorem es_cons {cap : Bool} {e : E} {r : Es} {x : Expr} {xs : List Expr} (hx : nStar x = true) (h : PE X x (semE Y cap e)) (t : PA X xs (semEs Y cap r)) : PA X (x :: xs) (semEs Y cap (.cons e r)) := (pa_cons h t (star_cons hx)).imp fun σ H Q => sem_cons
theorem ks_nil {cap : Bool} : PK X [] (semEs Y cap .nil) := ⟨fun pos pins s σ H Q I h => pk_nil.run pos pins s σ H Q I (sem_nil h)⟩
theorem ks_cons {cap : Bool} {e : E} {r : Es} {x : Expr} {nm : Option Str} {kp : Pos} {xs : List Keyword} (h : PE X x (semE Y cap e)) (t : PK X xs (semEs Y cap r)) : PK X (⟨nm, x, kp⟩ :: xs) (semEs Y cap (.cons e r)) := ⟨fun pos pins s σ H Q I q => (pk_cons h t).run pos pins s σ H Q I (sem_cons q)⟩
theorem def_ok (g : GX X Y C) {t : Blt} (ht : t = .max1 ∨ t = .min1) {a e : E} {x d : Expr} {y n : Str} {p kp pos : Pos} (hy : ofN C (bltName t) y = true) (hc : (C.calm || !calmB t) = true) (hn : (n == ("default" : Str)) = true) (na : nStar x = true)
    (ha : EOk X Y a x) (hd : EOk X Y e d) : EOk X Y (.blt t (.cons a (.cons e .nil))) (.Call (.Name y p) [x] [⟨some n, d, kp⟩] pos) := by
  obtain ⟨e, g1, g2, g3, g4⟩ := g.of hy
  subst e
  have e := eq_of_beq hn
  subst e
  have cm : X.calm = true := g.cm (by rcases ht with rfl | rfl <;> simpa [calmB] using hc)
  refine .plain (fun cap => ?_) rfl
  have pa := es_cons (xs := []) na (ha.pe false) es_nil
  have pk := ks_cons (Y := Y) (nm := some (Str.ofString "default")) (kp := kp) (hd.pe false) ks_nil
  have key : ∀ id : String, CallRK X (.builtin id) [Str.ofString "default"] (rDef (kx X) Y.ca t) → bltName t = id → bootBuiltins (bltName t) = some (.builtin id) → PE X (.Call (.Name (bltName t) p) [x] [⟨some (Str.ofString "default"), d, kp⟩] pos) (semE Y cap (.blt t (.cons a (.cons e .nil)))) := fun id hr _ hb => by
    refine (pe_callBK hr g1 g2 hb pa pk g3 g4 (by rw [star_cons na]; rfl) (by rw [star_cons na]; rfl)).imp fun σ H Q q => ?_
    have := sem_def ht q
    rw [g.hK] at this
    exact this
  rcases ht with rfl | rfl
  · exact key "max" (cr_maxd cm g.un) rfl (boot_blt (t := .max1) rfl)
  · exact key "min" (cr_mind cm g.un) rfl (boot_blt (t := .min1) rfl)
/-! ### calls of defs -/
theorem call_ok (g : GX X Y C) {f np : Nat} {es : Es} {args : List Expr} {y : Str} {p pos : Pos} (hf : chkFn C f np y = true) (hl : esLen es = some np) (hs : args.all nStar = true) (hz : args = [] → es = .nil) (ha : PA X args (semEs Y true es)) : EOk X Y (.call f es) (.Call (.Name y p) args [] pos) := by
  unfold chkFn at hf
  rw [Bool.and_eq_true] at hf
  obtain ⟨cm, hf⟩ := hf
  split at hf
  · rename_i z ps ef
    rw [Bool.and_eq_true, Bool.and_eq_true] at hf
    obtain ⟨⟨e1, h2⟩, h3⟩ := hf
    have e1 := eq_of_beq e1
    subst e1
    have h3 : ps.length = np := eq_of_beq h3
    subst h3
    obtain ⟨g1, g2⟩ := glB_ok g.sc h2
    obtain ⟨k, fa, fd, m, kp, rm, F, pb, _⟩ := g.fns cm f z ps ef
    refine .plain (fun cap => ?_) rfl
    cases args with
    | nil =>
      refine (pe_callp0 F rm g1 m kp pb (W' := WE Y.W) (fun σ => passAt g.tk σ) g2).imp fun σ H Q q => ?_
      have q := sem_call hl q
      have ez := hz rfl
      subst ez
      exact sem_nil q
    | cons a args =>
      have hs' := hs
      rw [List.all_cons, Bool.and_eq_true] at hs'
      exact (pe_callp F rm g1 m kp pb (W' := WE Y.W) (fun σ => passAt g.tk σ) ha g2 (star_cons hs'.1) (star_any hs'.2)).imp fun σ H Q q => sem_call hl q
  · cases hf
theorem callk_ok (g : GX X Y C) {f : Nat} {es ks : Es} {perm : List Nat} {args : List Expr} {kws : List Keyword} {y : Str} {p pos : Pos} (hf : chkFn C f perm.length y = true) (hl : esLen es = some args.length) (hs : args.all nStar = true) (hz : args = [] → es = .nil) (hk : kws.all (fun k => k.arg.isSome) = true)
    (hp : (args.length, kws.filterMap (·.arg), perm) ∈ C.kw f) (ha : PA X args (semEs Y true es)) (hw : PK X kws (semEs Y true ks)) : EOk X Y (.callk f es ks perm) (.Call (.Name y p) args kws pos) := by
  unfold chkFn at hf
  rw [Bool.and_eq_true] at hf
  obtain ⟨cm, hf⟩ := hf
  cases ef : C.fi f with
  | none => rw [ef] at hf; cases hf
  | some zp =>
  obtain ⟨z, ps⟩ := zp
  rw [ef] at hf
  simp only [Bool.and_eq_true] at hf
  obtain ⟨⟨e1, h2⟩, h3⟩ := hf
  have e1 := eq_of_beq e1
  subst e1
  have h3 : ps.length = perm.length := eq_of_beq h3
  obtain ⟨g1, g2⟩ := glB_ok g.sc h2
  obtain ⟨k, fa, fd, m, kp, rm, F, _, kb⟩ := g.fns cm f z ps ef
  have kb := kb args.length (kws.filterMap (·.arg)) perm hp
  obtain ⟨k1, k2⟩ := kw_some (pos := pos) (env := X.env) hk
  rw [h3] at F
  refine .plain (fun cap => ?_) rfl
  cases args with
  | nil =>
    refine (pe_callk0 F rm g1 m kp kb (W' := WE Y.W) (fun σ => passAt g.tk σ) hw k1 kw_names g2 (by rw [k2]; rfl)).imp fun σ H Q q => ?_
    have q := sem_callk hl q
    have ez := hz rfl
    subst ez
    exact sem_nil q
  | cons a args =>
    have hs' := hs
    rw [List.all_cons, Bool.and_eq_true] at hs'
    exact (pe_callk1 F rm g1 m kp kb (W' := WE Y.W) (fun σ => passAt g.tk σ) ha hw k1 kw_names g2 (star_cons hs'.1) (by rw [star_any hs, k2]; rfl)).imp fun σ H Q q => sem_callk hl q
/-! ### ranges made to tuples and lists -/
theorem of_ok (g : GX X Y C) {tup : Bool} {w : It} {x : Expr} {y : Str} {p pos : Pos} (cm : X.calm = true) (hx : nStar x = true) (hy : ofN C (if tup = true then "tuple" else "list") y = true) {te : L2.St → HpC → (Int → Int → HpC → Prop) → Prop} (hr : PRg X x te)
    (mono : ∀ σ H (Z Z' : Int → Int → HpC → Prop), (∀ a b H, Z a b H → Z' a b H) → te σ H Z → te σ H Z')
    (hq : ∀ cap σ H Q, semE Y cap (.ofIt tup w) σ H Q → te σ H (okRg Y.K Y.ca cap tup (WE Y.W σ) Q)) : EOk X Y (.ofIt tup w) (.Call (.Name y p) [x] [] pos) := by
  obtain ⟨e, g1, g2, g3, g4⟩ := g.of hy
  refine .plain (fun cap => ?_) rfl
  cases tup with
  | true =>
    have e : y = "tuple" := e
    subst e
    exact (pe_tupRgF cm g1 g2 hr (star_cons hx)).imp fun σ H Q q => hq cap σ H Q q
  | false =>
    have e : y = "list" := e
    subst e
    refine (pe_listRg cm g1 g2 hr (star_cons hx)).imp fun σ H Q q => ?_
    exact mono σ H _ _ (fun a b H1 z => ⟨z.1, fun q hq => z.2 q { cls := .type "list", data := .seq #[] 0 } hq rfl⟩) (hq cap σ H Q q)
theorem semE_mono {cap : Bool} {e : E} {σ : L2.St} {H : HpC} {Q Q' : VK} (i : ∀ v H, Q v H → Q' v H) (q : semE Y cap e σ H Q) : semE Y cap e σ H Q' := by
  obtain ⟨env, h, b, G, B, run⟩ := q
  exact ⟨env, h, b, G, B, run.mono i fun _ _ _ z => z⟩
theorem of1_ok (g : GX X Y C) {tup : Bool} {a : E} {l : Expr} {y z : Str} {p pz pr pos : Pos} (cm : C.calm = true) (hy : ofN C (if tup = true then "tuple" else "list") y = true) (hz : ofN C "range" z = true) (nl : nStar l = true) (ha : EOk X Y a l) :
    EOk X Y (.ofIt tup (.rng1 a)) (.Call (.Name y p) [.Call (.Name z pz) [l] [] pr] [] pos) := by
  obtain ⟨e, g1, g2, g3, g4⟩ := g.of hz
  subst e
  exact of_ok g (g.cm cm) rfl hy (prg_1 g1 g2 (ha.pe false) (star_cons nl)) (fun σ H Z Z' i q => semE_mono (fun v H ⟨n, e, z⟩ => ⟨n, e, i _ _ _ z⟩) q) (fun cap σ H Q q => sem_of1 q)
theorem of2_ok (g : GX X Y C) {tup : Bool} {a c : E} {l r : Expr} {y z : Str} {p pz pr pos : Pos} (cm : C.calm = true) (hy : ofN C (if tup = true then "tuple" else "list") y = true) (hz : ofN C "range" z = true) (nl : nStar l = true) (nr : nStar r = true) (ha : EOk X Y a l) (hb : EOk X Y c r) :
    EOk X Y (.ofIt tup (.rng2 a c)) (.Call (.Name y p) [.Call (.Name z pz) [l, r] [] pr] [] pos) := by
  obtain ⟨e, g1, g2, g3, g4⟩ := g.of hz
  subst e
  exact of_ok g (g.cm cm) rfl hy (prg_2 g1 g2 (ha.pe false) (hb.pe false) (star_cons nl) (star_cons nr) (by rw [star_cons nr]; rfl)) (fun σ H Z Z' i q => semE_mono (fun v H q => semE_mono (fun w H ⟨n, m, e, f, z⟩ => ⟨n, m, e, f, i _ _ _ z⟩) q) q) (fun cap σ H Q q => sem_of2 q)
theorem pe_mthNil {o : Expr} {name : Str} {apos cpos : Pos} {to : TE} {ta : TA} (ho : PE X o to) (hn : ∀ σ H Q, ta σ H Q → tNil σ H Q) (hbase : attributeBase o name X.env (eval o X.env) = eval o X.env) (hline : (apos.endLine == cpos.line) = true) : PE X (.Call (.Attribute o name apos) [] [] cpos) (tMth X name to ta) := by
  refine ⟨fun pins s σ H Q I q0 => ?_⟩
  refine wpAny_Call_method0_late hbase hline (thn (ho.run pins s σ H _ I q0) fun v s1 ⟨x, H1, I1, r1, T, id, F, ty, q1⟩ => ?_)
  obtain ⟨r, hm, q2⟩ := hn _ _ _ q1
  obtain ⟨t1, t2⟩ := ty pins s1 σ v I1 r1
  exact ⟨T, id, F.pa, F.slot, F.ty, t1, t2, Calls.callWith_builtin rfl (PySem.evalArgs_none (hm pins s1 σ H1 x [] v [] Q I1 r1 .nil q2))⟩
/-- a method -/
theorem mth_ok (g : GX X Y C) {m : Mt} {to : TE} {es : Es} {o : Expr} {args : List Expr} {name : Str} {apos cpos : Pos} (hn : (name == mtName m) = true) (hc : nCall o = true) (hs : args.all nStar = true) (hl : args.length < 30) (hp : (apos.endLine == cpos.line) = true) (hz : args = [] → es = .nil)
    (ho : PE X o to) (ha : PA X args (semEs Y m.keeps es)) : PE X (.Call (.Attribute o name apos) args [] cpos) (tMth X (mtName m) to (semEs Y m.keeps es)) := by
  have e := eq_of_beq hn
  subst e
  cases args with
  | nil =>
    have ez := hz rfl
    subst ez
    exact pe_mthNil ho (fun σ H Q q => sem_nil q) (base_plain hc) hp
  | cons a args =>
    have hs' := hs
    rw [List.all_cons, Bool.and_eq_true] at hs'
    refine pe_mth ho ha (base_plain hc) ?_ hp (star_cons hs'.1) (star_any hs'.2)
    rw [star_all hs]
    simpa [backToKw, keywordEach] using hl
end
end Rw

set_option maxHeartbeats 8000000
/-! L4e: the checker's yes. -/
namespace Rw
open PySem PySem.Spec PyProof.Rows L2

section
variable {X : Cx} {Y : Sx} {C : Ck}
theorem GX.blk (g : GX X Y C) {scope : Scope} (hk : scope.kind = .function) (s : Shared) (H : HpC) (Ca : Addr) (cl : List (Str × Addr)) (fp : List Addr) : GX (X.blk s H scope (compEnvC scope cl Ca X.env) fp) Y.blk (C.blk scope) where
  hK := g.hK
  hN := g.hN
  nd := g.nd
  sc := by
    show (compEnvC scope cl Ca X.env).scope = relN C.sc scope
    rw [rel_env, g.sc]
  kd := hk
  fn := fun y h => h
  cm := g.cm
  un := g.un
  gd := g.gd
  tk := takes_none5
  blt := g.blt
  gls := g.gls
  fns := g.fns
  su := fun i h => by cases h
theorem sem_yes {σ : L2.St} {H : HpC} {Q : Bool → HpC → Prop} (q : semB Y .yes σ H Q) : tYes σ H Q := by
  obtain ⟨env, h, b, G, B, run⟩ := q
  exact run H b Ext.refl B.vs
def ifsB (C : Ck) (c : E) (ifs : List Expr) : Bool := match ifs with
  | [] => isYes c
  | [z] => chkE C c z
  | _ => false
theorem ifs_ok {c : E} {ifs : List Expr} (ih : ∀ z, chkE C c z = true → EOk X Y c z) (h : ifsB C c ifs = true) : PTs X ifs (semB Y c) := by
  unfold ifsB at h
  split at h
  · have e : c = .yes := by cases c <;> first | rfl | cases h
    subst e
    exact pts_nil.imp fun σ H Q q => sem_yes q
  · exact pts_one (ih _ h).pt
  · cases h
theorem all_mem {xs ys : List Nat} (h : xs.all ys.contains = true) : ∀ i ∈ xs, i ∈ ys := fun i hi => by
  have := List.all_eq_true.mp h i hi
  exact List.contains_iff_mem.mp this
theorem lc_ok (g : GX X Y C) {e c : E} {t : Tg} {w : It} {own : List Nat} {elt tg it : Expr} {ifs : List Expr} {scope : Scope} {pos : Pos} (cm : C.calm = true) (hb : blkB C.N C.sc scope own = true) (hts : (tgSlots t).all own.contains = true) (hpr : (!prW w || !isN t) = true) (hs : nSet it = true)
    (hi : ∀ cap, PI X tg it (semI Y cap w)) (ht : chkT C.N (C.blk scope).sc (C.blk scope).fb t tg = true) (hc : ifsB (C.blk scope) c ifs = true) (he : chkE (C.blk scope) e elt = true)
    (ihc : ∀ (X' : Cx) (Y' : Sx), GX X' Y' (C.blk scope) → ∀ z, chkE (C.blk scope) c z = true → EOk X' Y' c z) (ihe : ∀ (X' : Cx) (Y' : Sx), GX X' Y' (C.blk scope) → ∀ z, chkE (C.blk scope) e z = true → EOk X' Y' e z) :
    EOk X Y (.lc e t w c own) (.ListComp elt [⟨tg, it, ifs, 0⟩] scope pos) ∧ EOk X Y (.sc e t w c own) (.SetComp elt [⟨tg, it, ifs, 0⟩] scope pos) := by
  have bo := blkB_ok hb
  have gb := fun s H Ca cl fp => g.blk bo.kind s H Ca cl fp
  have hN : X.N.Nodup := by rw [g.hN]; exact g.nd
  have bo' : BlkOk X.N X.env.scope scope (ownP C.N own) := by rw [g.hN, g.sc]; exact bo
  have ptg : ∀ (s : Shared) (H : HpC) (Ca : Addr) (cl : List (Str × Addr)) (fp : List Addr), PG (X.blk s H scope (compEnvC scope cl Ca X.env) fp) tg (semT Y.K t) := fun s H Ca cl fp => by
    have gb := gb s H Ca cl fp
    rw [g.hK]
    exact pg_T (by rw [gb.hN]; exact gb.nd) (gb.cm cm) gb.sc gb.fn t tg (by rw [gb.hN]; exact ht)
  have hpr' : prW w = true → isN t = false := fun z => by rw [z] at hpr; simpa using hpr
  constructor
  · refine .plain (fun cap => ?_) rfl
    have p := pe_lc (pos := pos) (g.cm cm) hN (hi false) bo' ptg (fun s H Ca cl fp => ifs_ok (ihc _ _ (gb s H Ca cl fp)) hc) (fun s H Ca cl fp => (ihe _ _ (gb s H Ca cl fp) _ he).pe true) (fold_plain hs)
    rw [ownP_snd] at p
    exact p.imp fun σ H Q q => sem_lc hpr' (all_mem hts) q
  · refine .plain (fun cap => ?_) rfl
    have p := pe_scK (pos := pos) (g.cm cm) hN (hi false) bo' ptg (fun s H Ca cl fp => ifs_ok (ihc _ _ (gb s H Ca cl fp)) hc) (fun s H Ca cl fp => (ihe _ _ (gb s H Ca cl fp) _ he).pe true) (fold_plain hs)
    rw [ownP_snd] at p
    refine p.imp fun σ H Q q => ?_
    have q := sem_sc hpr' (all_mem hts) q
    rw [g.hK] at q ⊢
    exact q
theorem lc2_ok (g : GX X Y C) {e c c1 : E} {t t1 : Tg} {w w1 : It} {own own1 : List Nat} {elt tg it tg1 it1 : Expr} {ifs ifs1 : List Expr} {scope : Scope} {pos : Pos} (cm : C.calm = true) (hb : blkB C.N C.sc scope own = true) (hoo : own1.all own.contains = true) (hts : (tgSlots t).all own.contains = true) (hts1 : (tgSlots t1).all own1.contains = true) (hpr : (!prW w || !isN t) = true) (hpr1 : (!prW w1 || !isN t1) = true) (hs : nSet it = true) (hs1 : nSet it1 = true)
    (hi : ∀ cap, PI X tg it (semI Y cap w)) (hi1 : chkI (C.blk scope) w1 it1 tg1 = true) (ht : chkT C.N (C.blk scope).sc (C.blk scope).fb t tg = true) (ht1 : chkT C.N (C.blk scope).sc (C.blk scope).fb t1 tg1 = true) (hc : ifsB (C.blk scope) c ifs = true) (hc1 : ifsB (C.blk scope) c1 ifs1 = true) (he : chkE (C.blk scope) e elt = true)
    (ihc : ∀ (X' : Cx) (Y' : Sx), GX X' Y' (C.blk scope) → ∀ z, chkE (C.blk scope) c z = true → EOk X' Y' c z) (ihc1 : ∀ (X' : Cx) (Y' : Sx), GX X' Y' (C.blk scope) → ∀ z, chkE (C.blk scope) c1 z = true → EOk X' Y' c1 z) (ihe : ∀ (X' : Cx) (Y' : Sx), GX X' Y' (C.blk scope) → ∀ z, chkE (C.blk scope) e z = true → EOk X' Y' e z)
    (ihi : ∀ (X' : Cx) (Y' : Sx), GX X' Y' (C.blk scope) → ∀ z tg, chkI (C.blk scope) w1 z tg = true → ∀ cap, PI X' tg z (semI Y' cap w1)) :
    EOk X Y (.lc2 e t w c t1 w1 c1 own own1) (.ListComp elt [⟨tg, it, ifs, 0⟩, ⟨tg1, it1, ifs1, 0⟩] scope pos) := by
  have bo := blkB_ok hb
  have gb := fun s H Ca cl fp => g.blk bo.kind s H Ca cl fp
  have hN : X.N.Nodup := by rw [g.hN]; exact g.nd
  have bo' : BlkOk X.N X.env.scope scope (ownP C.N own) := by rw [g.hN, g.sc]; exact bo
  have ptg : ∀ (t : Tg) (tg : Expr), chkT C.N (C.blk scope).sc (C.blk scope).fb t tg = true → ∀ (s : Shared) (H : HpC) (Ca : Addr) (cl : List (Str × Addr)) (fp : List Addr), PG (X.blk s H scope (compEnvC scope cl Ca X.env) fp) tg (semT Y.K t) := fun t tg ht s H Ca cl fp => by
    have gb := gb s H Ca cl fp
    rw [g.hK]
    exact pg_T (by rw [gb.hN]; exact gb.nd) (gb.cm cm) gb.sc gb.fn t tg (by rw [gb.hN]; exact ht)
  have hpr' : prW w = true → isN t = false := fun z => by rw [z] at hpr; simpa using hpr
  have hpr1' : prW w1 = true → isN t1 = false := fun z => by rw [z] at hpr1; simpa using hpr1
  refine .plain (fun cap => ?_) rfl
  have p := pe_lc2 (pos := pos) (vs1 := own1) (g.cm cm) hN (hi false) bo' (by rw [ownP_snd]; exact all_mem hoo) (ptg t tg ht) (fun s H Ca cl fp => ifs_ok (ihc _ _ (gb s H Ca cl fp)) hc) (fun s H Ca cl fp => ihi _ _ (gb s H Ca cl fp) _ _ hi1 true) (ptg t1 tg1 ht1) (fun s H Ca cl fp => ifs_ok (ihc1 _ _ (gb s H Ca cl fp)) hc1)
    (fun s H Ca cl fp => (ihe _ _ (gb s H Ca cl fp) _ he).pe true) (fold_plain hs) (fun env => fold_plain hs1)
  rw [ownP_snd] at p
  exact p.imp fun σ H Q q => sem_lc2 hpr' (all_mem hts) hpr1' (all_mem hts1) (all_mem hoo) q
theorem es_len_of : ∀ {es : Es} {args : List Expr}, chkEs C es args = true → args.all nStar = true → esLen es = some args.length ∧ (args = [] → es = .nil)
  | .nil, [], _, _ => ⟨rfl, fun _ => rfl⟩
  | .nil, _ :: _, h, _ => by simp [chkEs] at h
  | .cons e r, [], h, _ => by simp [chkEs] at h
  | .star e r, [], h, _ => by simp [chkEs] at h
  | .cons e r, x :: xs, h, hs => by
    rw [List.all_cons, Bool.and_eq_true] at hs
    simp only [chkEs, Bool.and_eq_true] at h
    refine ⟨?_, fun z => by cases z⟩
    show (esLen r).map (· + 1) = _
    rw [(es_len_of h.2 hs.2).1]
    rfl
  | .star e r, x :: xs, h, hs => by
    rw [List.all_cons, Bool.and_eq_true] at hs
    cases x <;> first
      | (simp [chkEs] at h; done)
      | (cases hs.1)
theorem tail_and (g : GX X Y C) {a b : E} {l r : Expr} {rest : List Expr} {pos : Pos} (ha : EOk X Y a l) (hb : EOk X Y b (tailOf .And r rest pos)) : EOk X Y (.and_ a b) (.BoolOp .And (l :: r :: rest) pos) := by
  have pe : ∀ cap, PE X (.BoolOp .And (r :: rest) pos) (semE Y cap b) := fun cap => by
    cases rest with
    | nil => exact pe_one (hb.pe cap)
    | cons _ _ => exact hb.pe cap
  have pw : PW X (.BoolOp .And (r :: rest) pos) (semB Y b) := by
    cases rest with
    | nil => exact pw_and1 hb.pt
    | cons _ _ => exact hb.pw _ _ _ rfl
  have w : PW X (.BoolOp .And (l :: r :: rest) pos) (semB Y (.and_ a b)) := (pw_and ha.pt pw).imp fun σ H Q q => semB_and q
  exact ⟨fun cap => (pe_and (ha.pe false) (pe false)).imp fun σ H Q q => sem_and q, w.pt, fun op vs p e => by cases e; exact w⟩
theorem tail_or (g : GX X Y C) {a b : E} {l r : Expr} {rest : List Expr} {pos : Pos} (ha : EOk X Y a l) (hb : EOk X Y b (tailOf .Or r rest pos)) : EOk X Y (.or_ a b) (.BoolOp .Or (l :: r :: rest) pos) := by
  have pe : ∀ cap, PE X (.BoolOp .Or (r :: rest) pos) (semE Y cap b) := fun cap => by
    cases rest with
    | nil => exact pe_one (hb.pe cap)
    | cons _ _ => exact hb.pe cap
  have pw : PW X (.BoolOp .Or (r :: rest) pos) (semB Y b) := by
    cases rest with
    | nil => exact pw_or1 hb.pt
    | cons _ _ => exact hb.pw _ _ _ rfl
  have w : PW X (.BoolOp .Or (l :: r :: rest) pos) (semB Y (.or_ a b)) := (pw_or ha.pt pw).imp fun σ H Q q => semB_or q
  exact ⟨fun cap => (pe_or (ha.pe false) (pe false)).imp fun σ H Q q => sem_or q, w.pt, fun op vs p e => by cases e; exact w⟩
theorem not_ok {a : E} {l : Expr} {pos : Pos} (ha : EOk X Y a l) : EOk X Y (.not_ a) (.UnaryOp .Not l pos) :=
  ⟨fun cap => (pe_not (ha.pe false)).imp fun σ H Q q => sem_not q, (pt_not ha.pt).imp fun σ H Q q => semB_not q, fun op vs p e => by cases e⟩
end
end Rw

set_option maxHeartbeats 16000000
/-! L4f: the checker's yes for every expression. -/
namespace Rw
open PySem PySem.Spec PyProof.Rows L2

section
variable {X : Cx} {Y : Sx} {C : Ck}
theorem pt_chain3 {a b c d : Expr} {ta tb tc td : TE} {pos : Pos} {op op' op'' : CmpOp} {r r' r'' : R2} (ho : OpR X (compareOp op) r) (ho' : OpR X (compareOp op') r') (ho'' : OpR X (compareOp op'') r'') (ha : PE X a ta) (hb : PE X b tb) (hc : PE X c tc) (hd : PE X d td)
    (hm : lastMarks [op, op', op''] [b, c, d] = false) : PT X (.Compare a [op, op', op''] [b, c, d] pos) (tTest (tChain3 r r' r'' ta tb tc td)) := by
  refine ⟨fun pins s σ H Q I q0 => ?_⟩
  refine isTrue_chain (thn (ha.run pins s σ H _ I q0) fun v s1 ⟨x, H1, I1, r1, q1⟩ => test_link (thn (hb.run pins s1 σ H1 _ I1 q1) fun u s2 ⟨y, H2, I2, r2, q2⟩ =>
    thn (ho pins s2 σ H2 x y v u _ I2 r1 r2 q2) fun d s3 ⟨z, H3, I3, r3, k, e, q3⟩ => ?_)) hm
  subst e
  cases r3
  refine wpAny_truthy_bool ?_
  cases k with
  | false =>
    obtain ⟨k1, e1, q4⟩ := q3
    cases e1
    exact ite_ff ⟨H3, I3, q4⟩
  | true =>
    refine ite_tt (test_link (thn (hc.run pins s3 σ H3 _ I3 q3) fun w' s4 ⟨z', H4, I4, r4, q4⟩ => thn (ho' pins s4 σ H4 y z' u w' _ I4 r2 r4 q4) fun d2 s5 ⟨z2, H5, I5, r5, k2, e2, q5⟩ => ?_))
    subst e2
    cases r5
    refine wpAny_truthy_bool ?_
    cases k2 with
    | false =>
      obtain ⟨k1, e1, q6⟩ := q5
      cases e1
      exact ite_ff ⟨H5, I5, q6⟩
    | true =>
      refine ite_tt (test_last (thn (hd.run pins s5 σ H5 _ I5 q5) fun u' s6 ⟨z6, H6, I6, r6, q6⟩ => thn (ho'' pins s6 σ H6 z' z6 w' u' _ I6 r4 r6 q6) fun d3 s7 ⟨z7, H7, I7, r7, k3, e3, q7⟩ => ?_))
      subst e3
      cases r7
      exact wpAny_truthy_bool ⟨H7, I7, q7⟩
def tIfT (t ta tb : TT) : TT := fun σ H Q => t σ H fun c H1 => if c = true then ta σ H1 Q else tb σ H1 Q
theorem pt_ife {c a b : Expr} {tA ta tb : TT} {pos : Pos} (hc : PT X c tA) (ha : PT X a ta) (hb : PT X b tb) : PT X (.IfExp c a b pos) (tIfT tA ta tb) := by
  refine ⟨fun pins s σ H Q I q0 => ?_⟩
  rw [arm_isTrue_IfExp]
  refine wpAny_bind (thn (hc.run pins s σ H _ I q0) fun d s1 ⟨H1, I1, q1⟩ => ?_)
  cases d with
  | true =>
    rw [if_pos rfl]
    exact ha.run pins s1 σ H1 Q I1 q1
  | false =>
    rw [if_neg Bool.false_ne_true]
    exact hb.run pins s1 σ H1 Q I1 q1
theorem semB_ife {c a b : E} {σ : L2.St} {H : HpC} {Q : Bool → HpC → Prop} (q : semB Y (.ife c a b) σ H Q) : tIfT (semB Y c) (semB Y a) (semB Y b) σ H Q := by
  obtain ⟨env, h, bb, G, B, run⟩ := q
  refine ⟨env, h, bb, G, B, ?_⟩
  have run : RunR Y.K Y.ca H bb G (asBool ((asBool (evE Y.P Y.cx false c env h)).bind fun r => if r.1 then evE Y.P Y.cx false a env r.2 else evE Y.P Y.cx false b env r.2)) (okB Y.K G Q) (WE Y.W σ) := run
  rw [asBool_bind] at run
  refine finRunR.stepT run fun k h' H' b' vs x run => ?_
  cases k with
  | true => exact ⟨env, h', b', G, B.on x vs, run⟩
  | false => exact ⟨env, h', b', G, B.on x vs, run⟩
theorem ife_ok {c a b : E} {t l r : Expr} {pos : Pos} (hc : EOk X Y c t) (ha : EOk X Y a l) (hb : EOk X Y b r) : EOk X Y (.ife c a b) (.IfExp t l r pos) :=
  ⟨fun cap => (pe_ifExp hc.pt (ha.pe cap) (hb.pe cap)).imp fun σ H Q q => sem_ife q, (pt_ife hc.pt ha.pt hb.pt).imp fun σ H Q q => semB_ife q, fun op vs p e => by cases e⟩
theorem bin_ok (g : GX X Y C) {o : Op} {a b : E} {l r : Expr} {pos : Pos} (ha : EOk X Y a l) (hb : EOk X Y b r) : EOk X Y (.bin o a b) (.BinOp l (pyOp o) r pos) :=
  .plain (fun cap => (pe_op (op_all (ca := Y.ca) o) (ha.pe false) (hb.pe false)).imp fun σ H Q q => by
    have := sem_bin q
    rw [g.hK] at this
    exact this) rfl
theorem cmp_ok (g : GX X Y C) {o : Cm} {a b : E} {l r : Expr} {pos : Pos} (hs : nSet r = true) (ha : EOk X Y a l) (hb : EOk X Y b r) : EOk X Y (.cmp o a b) (.Compare l [pyCm o] [r] pos) :=
  ⟨fun cap => (pe_cmpR (cm_all (ca := Y.ca) g.un o) (ha.pe false) (hb.pe false) (marks_plain hs)).imp fun σ H Q q => by
    have := sem_cmp q
    rw [g.hK] at this
    exact this, (pt_cmpR (cm_all (ca := Y.ca) g.un o) (ha.pe false) (hb.pe false) (marks_plain hs)).imp fun σ H Q q => by
    have := sem_cmp (semB_E q)
    rw [g.hK] at this
    exact this, fun op vs p e => by cases e⟩
theorem chain_ok (g : GX X Y C) {o p : Cm} {a b c : E} {l r r' : Expr} {pos : Pos} (hs : nSet r' = true) (ha : EOk X Y a l) (hb : EOk X Y b r) (hc : EOk X Y c r') : EOk X Y (.chain o p a b c) (.Compare l [pyCm o, pyCm p] [r, r'] pos) :=
  ⟨fun cap => (pe_chain (cm_all (ca := Y.ca) g.un o) (cm_all (ca := Y.ca) g.un p) (ha.pe false) (hb.pe false) (hc.pe false) (marks2 hs)).imp fun σ H Q q => by
    have := sem_chain q
    rw [g.hK] at this
    exact this, (pt_chain (cm_all (ca := Y.ca) g.un o) (cm_all (ca := Y.ca) g.un p) (ha.pe false) (hb.pe false) (hc.pe false) (marks2 hs)).imp fun σ H Q q => by
    have := sem_chain (semB_E q)
    rw [g.hK] at this
    exact this, fun op vs p e => by cases e⟩
theorem chain3_ok (g : GX X Y C) {o p t : Cm} {a b c d : E} {l r r' r'' : Expr} {pos : Pos} (hs : nSet r'' = true) (ha : EOk X Y a l) (hb : EOk X Y b r) (hc : EOk X Y c r') (hd : EOk X Y d r'') : EOk X Y (.chain3 o p t a b c d) (.Compare l [pyCm o, pyCm p, pyCm t] [r, r', r''] pos) :=
  ⟨fun cap => (pe_chain3 (cm_all (ca := Y.ca) g.un o) (cm_all (ca := Y.ca) g.un p) (cm_all (ca := Y.ca) g.un t) (ha.pe false) (hb.pe false) (hc.pe false) (hd.pe false) (marks3 hs)).imp fun σ H Q q => by
    have := sem_chain3 q
    rw [g.hK] at this
    exact this, (pt_chain3 (cm_all (ca := Y.ca) g.un o) (cm_all (ca := Y.ca) g.un p) (cm_all (ca := Y.ca) g.un t) (ha.pe false) (hb.pe false) (hc.pe false) (hd.pe false) (marks3 hs)).imp fun σ H Q q => by
    have := sem_chain3 (semB_E q)
    rw [g.hK] at this
    exact this, fun op vs p e => by cases e⟩
theorem idx_ok (g : GX X Y C) {a i : E} {o s : Expr} {pos : Pos} (hs : nSlice s = true) (ha : EOk X Y a o) (hi : EOk X Y i s) : EOk X Y (.idx a i) (.Subscript o s pos) :=
  .plain (fun cap => (pe_ix (ix_all (ca := Y.ca) g.un) (ha.pe false) (hi.pe false) (ix_plain hs)).imp fun σ H Q q => by
    have := sem_idx q
    rw [g.hK] at this
    exact this) rfl
theorem cut_ok (g : GX X Y C) {a : E} {lo hi : Oe} {o : Expr} {l u : Option Expr} {p pos : Pos} (ha : EOk X Y a o) (hl : PO X l (semO Y lo)) (hu : PO X u (semO Y hi)) : EOk X Y (.cutE a lo hi) (.Subscript o (.Slice l u none p) pos) :=
  .plain (fun cap => (pe_slice (sl_all (ca := Y.ca)) (ha.pe false) hl hu).imp fun σ H Q q => by
    have := sem_cut q
    rw [g.hK] at this
    exact this) rfl
theorem rev_ok (g : GX X Y C) {a : E} {o : Expr} {k : Nat} {p1 p2 p3 pos : Pos} (ha : EOk X Y a o) : EOk X Y (.rev a) (.Subscript o (.Slice none none (some (.UnaryOp .USub (.Constant (.int 1) k p1) p2)) p3) pos) :=
  .plain (fun cap => (pe_rev (ca := Y.ca) (ha.pe false)).imp fun σ H Q q => by
    have := sem_rev q
    rw [g.hK] at this
    exact this) rfl
theorem mthE_ok (g : GX X Y C) {m : Mt} {a : E} {es : Es} {o : Expr} {args : List Expr} {name : Str} {apos cpos : Pos} (hn : (name == mtName m) = true) (hc : nCall o = true) (hs : args.all nStar = true) (hl : args.length < 30) (hp : (apos.endLine == cpos.line) = true) (hz : args = [] → es = .nil)
    (ho : EOk X Y a o) (ha : PA X args (semEs Y m.keeps es)) : EOk X Y (.mth m a es) (.Call (.Attribute o name apos) args [] cpos) :=
  .plain (fun cap => (mth_ok g hn hc hs hl hp hz (ho.pe false) ha).imp fun σ H Q q => sem_mth g.hK g.un q) rfl
theorem heap_ok {e : E} {x : Expr} (h : EOk X Y e x) (n : nTest x = true) : EOk X Y (.heap e) x := .plain (fun cap => (h.pe true).imp fun σ H Q q => sem_heap q) n
end
mutual
theorem e_ok : ∀ (e : E) (X : Cx) (Y : Sx) (C : Ck), GX X Y C → ∀ x, chkE C e x = true → EOk X Y e x
  | .var i, X, Y, C, g, x, h => var_ok g h
  | .con d, X, Y, C, g, x, h => con_ok h
  | .glo i, X, Y, C, g, x, h => glo_ok g h
  | .yes, X, Y, C, g, x, h => by cases h
  | .tup es, X, Y, C, g, x, h => by
    unfold chkE at h
    split at h
    · exact .plain (fun cap => (pe_tupF (es_ok es X Y C g _ h true)).imp fun σ H Q q => sem_tup q) rfl
    · cases h
  | .lst es, X, Y, C, g, x, h => by
    unfold chkE at h
    split at h
    · exact .plain (fun cap => (pe_lst (es_ok es X Y C g _ h true)).imp fun σ H Q q => sem_lst q) rfl
    · cases h
  | .dsp ks vs, X, Y, C, g, x, h => dsp_ok h
  | .neg a, X, Y, C, g, x, h => by
    unfold chkE at h
    split at h
    · exact .plain (fun cap => (pe_un un_neg ((e_ok a X Y C g _ h).pe false)).imp fun σ H Q q => sem_neg q) rfl
    · cases h
  | .not_ a, X, Y, C, g, x, h => by
    unfold chkE at h
    split at h
    · exact not_ok (e_ok a X Y C g _ h)
    · cases h
  | .bin o a b, X, Y, C, g, x, h => by
    unfold chkE at h
    split at h
    · rw [Bool.and_eq_true, Bool.and_eq_true, decide_eq_true_iff] at h
      obtain ⟨⟨h1, h2⟩, h3⟩ := h
      subst h1
      exact bin_ok g (e_ok a X Y C g _ h2) (e_ok b X Y C g _ h3)
    · cases h
  | .cmp o a b, X, Y, C, g, x, h => by
    unfold chkE at h
    split at h
    · rw [Bool.and_eq_true, Bool.and_eq_true, Bool.and_eq_true, decide_eq_true_iff] at h
      obtain ⟨⟨⟨h1, h2⟩, h3⟩, h4⟩ := h
      subst h1
      exact cmp_ok g h2 (e_ok a X Y C g _ h3) (e_ok b X Y C g _ h4)
    · cases h
  | .chain o p a b c, X, Y, C, g, x, h => by
    unfold chkE at h
    split at h
    · simp only [Bool.and_eq_true, decide_eq_true_iff] at h
      obtain ⟨⟨⟨⟨⟨h1, h2⟩, h3⟩, h4⟩, h5⟩, h6⟩ := h
      subst h1; subst h2
      exact chain_ok g h3 (e_ok a X Y C g _ h4) (e_ok b X Y C g _ h5) (e_ok c X Y C g _ h6)
    · cases h
  | .chain3 o p q a b c d, X, Y, C, g, x, h => by
    unfold chkE at h
    split at h
    · simp only [Bool.and_eq_true, decide_eq_true_iff] at h
      obtain ⟨⟨⟨⟨⟨⟨⟨h1, h2⟩, h0⟩, h3⟩, h4⟩, h5⟩, h6⟩, h7⟩ := h
      subst h1; subst h2; subst h0
      exact chain3_ok g h3 (e_ok a X Y C g _ h4) (e_ok b X Y C g _ h5) (e_ok c X Y C g _ h6) (e_ok d X Y C g _ h7)
    · cases h
  | .and_ a b, X, Y, C, g, x, h => by
    unfold chkE at h
    split at h
    · rw [Bool.and_eq_true] at h
      exact tail_and g (e_ok a X Y C g _ h.1) (e_ok b X Y C g _ h.2)
    · cases h
  | .or_ a b, X, Y, C, g, x, h => by
    unfold chkE at h
    split at h
    · rw [Bool.and_eq_true] at h
      exact tail_or g (e_ok a X Y C g _ h.1) (e_ok b X Y C g _ h.2)
    · cases h
  | .ife c a b, X, Y, C, g, x, h => by
    unfold chkE at h
    split at h
    · rw [Bool.and_eq_true, Bool.and_eq_true] at h
      exact ife_ok (e_ok c X Y C g _ h.1.1) (e_ok a X Y C g _ h.1.2) (e_ok b X Y C g _ h.2)
    · cases h
  | .call f es, X, Y, C, g, x, h => by
    unfold chkE at h
    split at h
    · rw [Bool.and_eq_true, Bool.and_eq_true] at h
      obtain ⟨⟨h1, h2⟩, h3⟩ := h
      split at h1
      · rename_i n en
        exact call_ok g h1 en h2 (es_len_of h3 h2).2 (es_ok es X Y C g _ h3 true)
      · cases h1
    · cases h
  | .callk f es ks perm, X, Y, C, g, x, h => by
    unfold chkE at h
    split at h
    · simp only [Bool.and_eq_true] at h
      obtain ⟨⟨⟨⟨⟨h1, h2⟩, h3⟩, h4⟩, h5⟩, h6⟩ := h
      exact callk_ok g h1 (es_len_of h5 h2).1 h2 (es_len_of h5 h2).2 h3 (List.contains_iff_mem.mp h4) (es_ok es X Y C g _ h5 true) (ks_ok ks X Y C g _ h6 true)
    · cases h
  | .blt b es, X, Y, C, g, x, h => by
    unfold chkE at h
    split at h
    · simp only [Bool.and_eq_true] at h
      obtain ⟨⟨h1, h2⟩, h3⟩ := h
      split at h3
      · rename_i ts e a t
        simp only [Bool.and_eq_true] at h3
        exact isi_ok g h1 h3.1.1 (e_ok e X Y C g _ h3.1.2) h3.2
      · cases h3
      · rename_i e d a n dv kp
        simp only [Bool.and_eq_true] at h3
        obtain ⟨⟨⟨n1, n2⟩, n3⟩, n4⟩ := h3
        exact def_ok g (.inl rfl) h1 h2 n1 n2 (e_ok e X Y C g _ n3) (e_ok d X Y C g _ n4)
      · rename_i e d a n dv kp
        simp only [Bool.and_eq_true] at h3
        obtain ⟨⟨⟨n1, n2⟩, n3⟩, n4⟩ := h3
        exact def_ok g (.inr rfl) h1 h2 n1 n2 (e_ok e X Y C g _ n3) (e_ok d X Y C g _ n4)
      · simp only [Bool.and_eq_true] at h3
        obtain ⟨⟨⟨n0, n1⟩, n2⟩, n3⟩ := h3
        exact blt_ok g h1 h2 n1 n2 (fun ts e => by subst e; cases n0) (fun e => by subst e; cases n0) (es_ok es X Y C g _ n3 false)
      · cases h3
    · cases h
  | .mth m a es, X, Y, C, g, x, h => by
    unfold chkE at h
    split at h
    · simp only [Bool.and_eq_true, decide_eq_true_iff] at h
      obtain ⟨⟨⟨⟨⟨⟨h1, h2⟩, h3⟩, h4⟩, h5⟩, h6⟩, h7⟩ := h
      exact mthE_ok g h1 h2 h3 h4 h5 (es_len_of h7 h3).2 (e_ok a X Y C g _ h6) (es_ok es X Y C g _ h7 _)
    · cases h
  | .idx a i, X, Y, C, g, x, h => by
    unfold chkE at h
    split at h
    · rw [Bool.and_eq_true, Bool.and_eq_true] at h
      exact idx_ok g h.1.1 (e_ok a X Y C g _ h.1.2) (e_ok i X Y C g _ h.2)
    · cases h
  | .cutE a lo hi, X, Y, C, g, x, h => by
    unfold chkE at h
    split at h
    · rw [Bool.and_eq_true, Bool.and_eq_true] at h
      exact cut_ok g (e_ok a X Y C g _ h.1.1) (o_ok lo X Y C g _ h.1.2) (o_ok hi X Y C g _ h.2)
    · cases h
  | .rev a, X, Y, C, g, x, h => by
    unfold chkE at h
    split at h
    · exact rev_ok g (e_ok a X Y C g _ h)
    · cases h
  | .lc e t w c own, X, Y, C, g, x, h => by
    unfold chkE at h
    split at h
    · simp only [Bool.and_eq_true] at h
      obtain ⟨⟨⟨⟨⟨⟨⟨⟨h1, h2⟩, h3⟩, h4⟩, h5⟩, h6⟩, h7⟩, h8⟩, h9⟩ := h
      exact (lc_ok g h1 h2 h3 h4 h5 (i_ok w X Y C g _ _ h6) h7 h8 h9 (fun X' Y' g' z hz => e_ok c X' Y' _ g' z hz) (fun X' Y' g' z hz => e_ok e X' Y' _ g' z hz)).1
    · cases h
  | .sc e t w c own, X, Y, C, g, x, h => by
    unfold chkE at h
    split at h
    · simp only [Bool.and_eq_true] at h
      obtain ⟨⟨⟨⟨⟨⟨⟨⟨h1, h2⟩, h3⟩, h4⟩, h5⟩, h6⟩, h7⟩, h8⟩, h9⟩ := h
      exact (lc_ok g h1 h2 h3 h4 h5 (i_ok w X Y C g _ _ h6) h7 h8 h9 (fun X' Y' g' z hz => e_ok c X' Y' _ g' z hz) (fun X' Y' g' z hz => e_ok e X' Y' _ g' z hz)).2
    · cases h
  | .lc2 e t w c t1 w1 c1 own own1, X, Y, C, g, x, h => by
    unfold chkE at h
    split at h
    · simp only [Bool.and_eq_true] at h
      obtain ⟨⟨⟨⟨⟨⟨⟨⟨⟨⟨⟨⟨⟨⟨⟨h1, h2⟩, h3⟩, h4⟩, h5⟩, h6⟩, h7⟩, h8⟩, h9⟩, h10⟩, h11⟩, h12⟩, h13⟩, h14⟩, h15⟩, h16⟩ := h
      exact lc2_ok g h1 h2 h3 h4 h5 h6 h7 h8 h9 (i_ok w X Y C g _ _ h10) h11 h12 h13 h14 h15 h16 (fun X' Y' g' z hz => e_ok c X' Y' _ g' z hz) (fun X' Y' g' z hz => e_ok c1 X' Y' _ g' z hz) (fun X' Y' g' z hz => e_ok e X' Y' _ g' z hz) (fun X' Y' g' z tg hz => i_ok w1 X' Y' _ g' z tg hz)
    · cases h
  | .heap e, X, Y, C, g, x, h => by
    unfold chkE at h
    rw [Bool.and_eq_true, Bool.and_eq_true] at h
    exact heap_ok (e_ok e X Y C g _ h.2) h.1.1
  | .fld f, X, Y, C, g, x, h => fld_ok g h
  | .ofIt tup w, X, Y, C, g, x, h => by
    unfold chkE at h
    rw [Bool.and_eq_true] at h
    obtain ⟨cm, h⟩ := h
    split at h
    · simp only [Bool.and_eq_true] at h
      obtain ⟨⟨h1, h2⟩, h3⟩ := h
      split at h3
      · rename_i a l
        rw [Bool.and_eq_true] at h3
        exact of1_ok g cm h1 h2 h3.1 (e_ok a X Y C g _ h3.2)
      · rename_i a b l r
        simp only [Bool.and_eq_true] at h3
        obtain ⟨⟨⟨n1, n2⟩, n3⟩, n4⟩ := h3
        exact of2_ok g cm h1 h2 n1 n2 (e_ok a X Y C g _ n3) (e_ok b X Y C g _ n4)
      · cases h3
    · cases h
theorem o_ok : ∀ (o : Oe) (X : Cx) (Y : Sx) (C : Ck), GX X Y C → ∀ x, chkO C o x = true → PO X x (semO Y o)
  | .no, X, Y, C, g, none, h => po_none.imp fun σ H Q q => sem_none q
  | .no, X, Y, C, g, some _, h => by cases h
  | .yes e, X, Y, C, g, none, h => by cases h
  | .yes e, X, Y, C, g, some x, h => (po_some ((e_ok e X Y C g _ h).pe false)).imp fun σ H Q q => sem_one rfl q
theorem es_ok : ∀ (es : Es) (X : Cx) (Y : Sx) (C : Ck), GX X Y C → ∀ xs, chkEs C es xs = true → ∀ cap, PA X xs (semEs Y cap es)
  | .nil, X, Y, C, g, [], h, cap => es_nil
  | .nil, X, Y, C, g, _ :: _, h, cap => by simp [chkEs] at h
  | .cons e r, X, Y, C, g, [], h, cap => by simp [chkEs] at h
  | .star e r, X, Y, C, g, [], h, cap => by simp [chkEs] at h
  | .cons e r, X, Y, C, g, x :: xs, h, cap => by
    simp only [chkEs, Bool.and_eq_true] at h
    exact es_cons h.1.1 ((e_ok e X Y C g _ h.1.2).pe cap) (es_ok r X Y C g _ h.2 cap)
  | .star e r, X, Y, C, g, x :: xs, h, cap => by
    cases x <;> first
      | (simp [chkEs] at h; done)
      | skip
    rename_i x p
    simp only [chkEs, Bool.and_eq_true] at h
    have := StX.pa_star (p := p) ((e_ok e X Y C g _ h.1).pe false) (es_ok r X Y C g _ h.2 cap)
    exact this.imp fun σ H Q q => by
      have q := sem_star q
      rw [g.hK] at q
      exact q
theorem ks_ok : ∀ (es : Es) (X : Cx) (Y : Sx) (C : Ck), GX X Y C → ∀ xs, chkKs C es xs = true → ∀ cap, PK X xs (semEs Y cap es)
  | .nil, X, Y, C, g, [], h, cap => ks_nil
  | .nil, X, Y, C, g, _ :: _, h, cap => by simp [chkKs] at h
  | .cons e r, X, Y, C, g, [], h, cap => by simp [chkKs] at h
  | .star e r, X, Y, C, g, _, h, cap => by simp [chkKs] at h
  | .cons e r, X, Y, C, g, ⟨n, x, p⟩ :: xs, h, cap => by
    simp only [chkKs, Bool.and_eq_true] at h
    exact ks_cons ((e_ok e X Y C g _ h.1).pe cap) (ks_ok r X Y C g _ h.2 cap)
theorem i_ok : ∀ (w : It) (X : Cx) (Y : Sx) (C : Ck), GX X Y C → ∀ x tg, chkI C w x tg = true → ∀ cap, PI X tg x (semI Y cap w)
  | .seq e, X, Y, C, g, x, tg, h, cap => (pi_seq ((e_ok e X Y C g _ h).pe cap)).imp fun σ H Q q => by
    have q := sem_seq q
    rw [g.hK] at q
    exact q
  | .rng1 a, X, Y, C, g, x, tg, h, cap => by
    unfold chkI at h
    split at h
    · simp only [Bool.and_eq_true] at h
      obtain ⟨⟨h1, h2⟩, h3⟩ := h
      obtain ⟨e, g1, g2, g3, g4⟩ := g.of h1
      subst e
      exact (pi_range1 g1 g2 (pa_cons ((e_ok a X Y C g _ h3).pe false) pa_nil (star_cons h2)) (star_cons h2)).imp fun σ H Q q => sem_rng1 q
    · cases h
  | .rng2 a b, X, Y, C, g, x, tg, h, cap => by
    unfold chkI at h
    split at h
    · simp only [Bool.and_eq_true] at h
      obtain ⟨⟨⟨⟨h1, h2⟩, h3⟩, h4⟩, h5⟩ := h
      obtain ⟨e, g1, g2, g3, g4⟩ := g.of h1
      subst e
      refine (pi_range2 g1 g2 (pa_cons ((e_ok a X Y C g _ h4).pe false) (pa_cons ((e_ok b X Y C g _ h5).pe false) pa_nil (star_cons h3)) (star_cons h2)) (by rw [star_cons h2, star_cons h3]; rfl) (star_cons h3)).imp fun σ H Q q => sem_rng2 q
    · cases h
  | .enum a, X, Y, C, g, x, tg, h, cap => by
    unfold chkI at h
    split at h
    · simp only [Bool.and_eq_true] at h
      obtain ⟨⟨⟨h1, h2⟩, h3⟩, h4⟩ := h
      obtain ⟨e, g1, g2, g3, g4⟩ := g.of h1
      subst e
      cases tg <;> first
        | (simp [nTup] at h3; done)
        | skip
      exact (pi_enumA g1 g2 (pa_cons ((e_ok a X Y C g _ h4).pe cap) pa_nil (star_cons h2)) (star_cons h2)).imp fun σ H Q q => by
        have q := sem_enum q
        rw [g.hK] at q
        exact q
    · cases h
  | .zip a b, X, Y, C, g, x, tg, h, cap => by
    unfold chkI at h
    split at h
    · simp only [Bool.and_eq_true] at h
      obtain ⟨⟨⟨⟨⟨h1, h2⟩, h3⟩, h4⟩, h5⟩, h6⟩ := h
      obtain ⟨e, g1, g2, g3, g4⟩ := g.of h1
      subst e
      cases tg <;> first
        | (simp [nTup] at h4; done)
        | skip
      exact (RZ.pi_zipA g1 g2 (pa_cons ((e_ok a X Y C g _ h5).pe cap) (pa_cons ((e_ok b X Y C g _ h6).pe cap) pa_nil (star_cons h3)) (star_cons h2)) (star_cons h2) (by rw [star_cons h3]; rfl)).imp fun σ H Q q => by
        have q := sem_zip q
        rw [g.hK] at q
        exact q
    · cases h
end
end Rw

set_option maxHeartbeats 8000000
/-! L5a: the checker of statements. -/
namespace Rw
open PySem PySem.Spec PyProof.Rows L2

def exvN (C : Ck) (is : List Nat) : Bool := match C.exv with
  | some i => !is.contains i
  | none => true
/-- the store is in the loop's own frame: what swapsWith answers for name = comprehension -/
def swB (C : Ck) (y : Str) (py : Pos) : Expr → Bool
  | .ListComp e gs scope pos => C.sc.names.lookup y == some .local && py.line == pos.line && !(scope.names.any fun p => p.1 == y && (p.2 == .local || p.2 == .cell))
  | .SetComp e gs scope pos => C.sc.names.lookup y == some .local && py.line == pos.line && !(scope.names.any fun p => p.1 == y && (p.2 == .local || p.2 == .cell))
  | _ => false
def nDict : Expr → Bool
  | .DictComp _ _ _ _ _ => false
  | _ => true
theorem swB_eq {X : Cx} {C : Ck} (hs : X.env.scope = C.sc) (hk : C.sc.kind = .function) {y : Str} {py : Pos} {e : Expr} {n : Nat} (hd : nDict e = true) : swapsWith e (some (.Name y py)) n X.env = pure (swB C y py e) := by
  have bk : (X.env.blockKind == ScopeKind.function) = true := by
    unfold Env.blockKind
    rw [hs, hk]; rfl
  have kf : X.env.kindOf y = C.sc.names.lookup y := by
    show X.env.scope.names.lookup y = _
    rw [hs]
  cases e <;> first
    | rfl
    | (cases hd; done)
    | (unfold swapsWith swB; simp only [kf, bk, Bool.true_and, Expr.pos])
def parB (C : Ck) (x y : Str) (px py : Pos) (a b : Expr) : Bool := C.sc.names.lookup x == some .local && C.sc.names.lookup y == some .local && px.line == py.line && !(x == y) && nStar a && nStar b && !(foldedForSure 8 a && foldedForSure 8 b) && !(constantsAlone 8 a && constantsAlone 8 b)
theorem st_any {a b : Expr} (ha : nStar a = true) (hb : nStar b = true) : ([a, b].any fun | .Starred .. => true | _ => false) = false := by
  have q : ∀ e : Expr, nStar e = true → ([e].any fun | .Starred .. => true | _ => false) = false := fun e z => by cases e <;> first | rfl | (cases z)
  have e : ∀ f : Expr → Bool, [a, b].any f = ([a].any f || [b].any f) := fun f => by simp
  rw [e, q a ha, q b hb]; rfl
theorem par_swap {X : Cx} {C : Ck} (hs : X.env.scope = C.sc) (hk : C.sc.kind = .function) {x y : Str} {px py pt pt2 : Pos} {kt k2 : Nat} {a b : Expr} (h : parB C x y px py a b = true) : swappedStores [.Tuple [.Name x px, .Name y py] kt pt] (.Tuple [a, b] k2 pt2) X.env = pure (some [x, y]) := by
  unfold parB at h
  simp only [Bool.and_eq_true, Bool.not_eq_true'] at h
  obtain ⟨⟨⟨⟨⟨⟨⟨h1, h2⟩, h3⟩, h4⟩, h5⟩, h6⟩, h7⟩, h8⟩ := h
  have bk : X.env.blockKind = ScopeKind.function := by
    unfold Env.blockKind
    rw [hs, hk]; rfl
  have kx : X.env.kindOf x = some .local := by
    show X.env.scope.names.lookup x = _
    rw [hs]; exact eq_of_beq h1
  have ky : X.env.kindOf y = some .local := by
    show X.env.scope.names.lookup y = _
    rw [hs]; exact eq_of_beq h2
  have h3 : px.line = py.line := eq_of_beq h3
  have hxy : ¬ x = y := by simpa using h4
  have e1 : (some NameKind.local == some NameKind.local && py.line == py.line) = true := by simp
  have hl : ∀ a b : Str, a ≠ b → ([a, b].eraseDups.length != 2) = false := fun a b n => by
    have : (b == a) = false := by simpa using Ne.symm n
    simp [List.eraseDups_cons, this]
  unfold swappedStores
  simp only [List.length_cons, List.length_nil, bk, kx, ky, List.any_cons, List.any_nil, List.filterMap_cons, List.filterMap_nil, List.head?_cons, Option.map_some, Option.getD_some, Expr.pos, h3, List.all_cons, List.all_nil, Bool.and_true, h7, h8, e1, if_true]
  rw [if_neg (by decide), if_neg (by rw [Bool.not_eq_true]; exact st_any h5 h6)]
  simp [hl x y hxy]
/-- a target whose stores stand one by one: not all names are plain locals, or they are not two or three -/
def cellT (sc : Scope) : Expr → Bool
  | .Tuple ts _ _ => !(ts.length == 2 || ts.length == 3) || ts.any fun x => match x with
    | .Name y _ => !(sc.names.lookup y == some .local)
    | _ => true
  | _ => false
theorem fm_short {α β : Type} (f : α → Option β) : ∀ {l : List α}, (∃ x ∈ l, f x = none) → (l.filterMap f).length ≠ l.length
  | [], h => by obtain ⟨x, hx, _⟩ := h; cases hx
  | y :: l, h => by
    have le := List.length_filterMap_le f l
    rw [List.filterMap_cons]
    cases e : f y with
    | none => simp only [List.length_cons]; omega
    | some b =>
      obtain ⟨x, hx, hf⟩ := h
      rcases List.mem_cons.mp hx with q | q
      · rw [← q, hf] at e; cases e
      · have := fm_short f ⟨x, q, hf⟩
        simp only [List.length_cons]; omega
theorem stores_cell {X : Cx} {C : Ck} (hs : X.env.scope = C.sc) {tg v : Expr} (h : cellT C.sc tg = true) : swappedStores [tg] v X.env = pure none := by
  have kf : ∀ y, X.env.kindOf y = C.sc.names.lookup y := fun y => by
    show X.env.scope.names.lookup y = _
    rw [hs]
  cases tg <;> first | (cases h; done) | skip
  rename_i ts k p
  cases v <;> first | rfl | skip
  rename_i vs k2 p2
  have key : ∀ f : Expr → Option Str, (∀ x, f x = match x with
      | .Name id pos => if X.env.kindOf id == some .local && pos.line == (ts.head?.map (·.pos.line)).getD 0 then some id else none
      | _ => none) → (!(ts.length == 2 || ts.length == 3)) = false → ((ts.filterMap f).length != ts.length) = true := fun f hf hl => by
    unfold cellT at h
    simp only [] at h
    rw [hl, Bool.false_or, List.any_eq_true] at h
    obtain ⟨x, hx, hq⟩ := h
    have := fm_short f ⟨x, hx, by
      rw [hf]
      split at hq
      · rename_i y _
        have hq : (C.sc.names.lookup y == some .local) = false := by simpa using hq
        simp only [kf, hq, Bool.false_and]; rfl
      · rfl⟩
    simpa using this
  unfold swappedStores
  simp only []
  split
  · rfl
  · rename_i n1
    split
    · rfl
    · have hl : (!(ts.length == 2 || ts.length == 3)) = false := by
        cases q : (!(ts.length == 2 || ts.length == 3)) with
        | true => exact absurd (by rw [q]; rfl) n1
        | false => rfl
      exact if_pos (Bool.or_eq_true_iff.mpr (.inl (key _ (fun x => by cases x <;> rfl) hl)))
mutual
def chkS : Ck → S → Stmt → Bool
  | C, .expr e, x => match x with
    | .Expr v _ => nComp v && chkE C e v
    | _ => false
  | C, .mut m r es, x => match x with
    | .Expr (.Call (.Attribute o name apos) args [] cpos) _ => name == mtName m && nCall o && args.all nStar && decide (args.length < 30) && (apos.endLine == cpos.line) && chkEs C es args && (match r with
      | .var i => chkVar C i o
      | r => chkE C r o)
    | _ => false
  | C, .asg t e, x => match x with
    | .Assign [tg] v _ => (match t, tg with
      | .n i, .Name y py => C.N[i]? == some y && stoB C.sc C.fb y && exvN C [i] && chkE C e v && nDict v && (!swB C y py v || C.sc.names.lookup y == some .local)
      | .t ts, tg => C.calm && chkT C.N C.sc C.fb (.t ts) tg && exvN C (tgSlots (.t ts)) && (nTup v || cellT C.sc tg) && nComp v && chkE C e v
      | _, _ => false)
    | _ => false
  | C, .par is es, x => match x with
    | .Assign [.Tuple [.Name y py, .Name z pz] _ _] (.Tuple [a, b] _ _) _ => C.calm && parB C y z py pz a b && (match is, es with
      | [i, j], .cons e (.cons f .nil) => C.N[i]? == some y && C.N[j]? == some z && i != j && exvN C [i] && exvN C [j] && chkE C e a && chkE C f b
      | _, _ => false)
    | _ => false
  | C, .setx r k v, x => match x with
    | .Assign [.Subscript o i _] w _ => nSlice i && nComp w && chkE C v w && chkE C k i && (match r with
      | .var i => chkVar C i o
      | r => chkE C r o)
    | _ => false
  | C, .aug i o e, x => match x with
    | .AugAssign (.Name y _) op w _ => C.N[i]? == some y && stoB C.sc C.fb y && exvN C [i] && decide (op = pyOp o) && (o matches .add || o matches .sub) && chkE C e w
    | _ => false
  | C, .ret e, x => match x with
    | .Return (some v) _ => chkE C e v
    | _ => false
  | C, .retv i, x => match x with
    | .Return (some v) _ => chkVar C i v
    | _ => false
  | _, .retN, x => match x with
    | .Return none _ => true
    | _ => false
  | C, .ifs c a b, x => match x with
    | .If t xs ys _ => chkE C c t && chkSs C a xs && chkSs C b ys
    | _ => false
  | C, .for_ t w b, x => match x with
    | .For tg it body [] _ => C.calm && nSet it && chkI C w it tg && chkT C.N C.sc C.fb t tg && exvN C (tgSlots t) && (!prW w || !isN t) && chkSs C b body
    | _ => false
  | C, .while_ c b, x => match x with
    | .While t body [] _ => C.calm && chkE C c t && chkSs C b body
    | _ => false
  | C, .raise c es, x => match x with
    | .Raise (some (.Call (.Name y _) [a] [] _)) none _ => C.calm && C.ci c == some y && glB C.sc y && nStar a && (match es with
      | .cons e .nil => chkE C e a
      | _ => false)
    | _ => false
  | C, .try_ b hs, x => match x with
    | .Try body (h :: hds) [] [] _ => C.calm && decide (C.exv = none) && chkSs C b body && chkHs C hs (h :: hds)
    | _ => false
  | _, .pass, x => match x with
    | .Pass _ => true
    | .Expr (.Constant (.str _) _ _) _ => true
    | _ => false
  | _, .brk, x => match x with
    | .Break _ => true
    | _ => false
  | _, .cnt, x => match x with
    | .Continue _ => true
    | _ => false
  | C, .frz _ s, x => chkS C s x
def chkSs : Ck → Ss → List Stmt → Bool
  | _, .nil, [] => true
  | C, .cons s r, x :: xs => chkS C s x && chkSs C r xs
  | _, _, _ => false
def chkHs : Ck → Hs → List ExceptHandler → Bool
  | _, .nil, [] => true
  | C, .cons c i b r, .ExceptHandler (some (.Name y _)) n (s :: body) _ :: hds => C.ci c == some y && glB C.sc y && (match i, n with
      | none, none => true
      | some i, some n => C.N[i]? == some n && C.sc.names.lookup n == some .local
      | _, _ => false) && chkSs { C with calm := false, exv := i } b (s :: body) && chkHs C r hds
  | _, _, _ => false
end
end Rw

set_option maxHeartbeats 16000000
/-! L5b: the checker's yes for statements. -/
namespace Rw
open PySem PySem.Spec PyProof.Rows L2

/-- an own exception class with one field -/
def RzAt (X : Cx) (Y : Sx) (c : Nat) (y : Str) : Prop := ∃ (f : Str) (fI : Addr) (fd : FuncData) (ps : List Str) (k : Nat), Y.P.fld c = some f ∧ OexC X.K (Y.ca c) ∧ PySem.W.findIn X.K (.ref (Y.ca c)) "__init__" = some (some (.ref fI)) ∧ PySem.W.typeIn X.K (.ref fI) = some (.type "function") ∧
  FnOk X.prog X.w X.K X.mg X.base (L2.CX X.prog X.w) k fI fd ps (spI X.K f) ∧ Room (k + 1) X.A ∧ Binds X.K fd ps [] ∧ PySem.W.findIn X.K (.ref (Y.ca c)) f = some none
structure GS (X : Cx) (Y : Sx) (C : Ck) : Prop extends GX X Y C where
  po : C.calm = true → PassesOwn (model X.prog X.w) X.A X.env X.xe
  sk : C.calm = true → X.stack = X.env :: X.outer
  fr : C.calm = true → X.env.frame = some X.env.locals
  rz : C.calm = true → ∀ c y, C.ci c = some y → RzAt X Y c y
  nm : ∀ c y, C.ci c = some y → X.mg y = some (.ref (Y.ca c))
  sub : ∀ k c, PySem.W.exmOne Y.K.f (.ref (Y.ca k)) (.ref (Y.ca c)) = some (Y.P.sub k c)
  xf : ∀ c, XfC X.K (Y.ca c)
  xn : ∀ c f, C.fl.contains f = true → PySem.W.findIn X.K (.ref (Y.ca c)) f = some none
  ex : C.exv = none → Y.exv = none
section
variable {X : Cx} {Y : Sx} {C : Ck}
theorem GS.exN (g : GS X Y C) {is : List Nat} (h : exvN C is = true) : ∀ p, Y.exv = some p → p.1 ∉ is := fun p hp hm => by
  unfold exvN at h
  cases e : C.exv with
  | none => rw [g.ex e] at hp; cases hp
  | some i =>
    rw [e] at h
    obtain ⟨X0, a, oe, pn, c, _, e1, _⟩ := g.su i e
    rw [e1] at hp
    cases hp
    have : is.contains i = true := List.contains_iff_mem.mpr hm
    have h : (!is.contains i) = true := h
    rw [this] at h
    cases h
theorem GS.ex1 (g : GS X Y C) {i : Nat} (h : exvN C [i] = true) : ∀ p, Y.exv = some p → p.1 ≠ i := fun p hp e => g.exN h p hp (by rw [e]; simp)
theorem GS.tr (g : GS X Y C) (cm : C.calm = true) (hx : C.exv = none) {W : WX} {pn : List (Addr × Obj)} {xe : Value → Shared → Prop} (tk : Takes (X.tr pn xe) W) (po : PassesOwn (model X.prog X.w) X.A X.env xe) : GS (X.tr pn xe) (Y.w W) C where
  hK := g.hK
  hN := g.hN
  nd := g.nd
  sc := g.sc
  kd := g.kd
  fn := g.fn
  cm := g.cm
  un := g.un
  gd := g.gd
  tk := tk
  blt := g.blt
  gls := g.gls
  fns := g.fns
  su := fun i h => by rw [hx] at h; cases h
  po := fun _ => po
  sk := g.sk
  fr := g.fr
  rz := g.rz
  nm := g.nm
  sub := g.sub
  xf := g.xf
  xn := g.xn
  ex := g.ex
theorem GS.suite (g : GS X Y C) {i : Option Nat} {a : Addr} {oe : Obj} {pn : List (Addr × Obj)} {x : Exn} {dd : Addr} (z : Zc (.ref (Y.ca x.cls)) (some dd) oe) (hd : ∃ vs, oe.data = .fields vs) : GS (X.suite a ((a, oe) :: pn)) (Y.hd x dd (i.map fun i => (i, .ref a))) { C with calm := false, exv := i } where
  hK := g.hK
  hN := g.hN
  nd := g.nd
  sc := g.sc
  kd := g.kd
  fn := g.fn
  cm := fun h => by cases h
  un := g.un
  gd := g.gd
  tk := takes_none5
  blt := g.blt
  gls := g.gls
  fns := fun h => by cases h
  su := fun j h => by
    have h : i = some j := h
    subst h
    exact ⟨X, a, oe, pn, x.cls, rfl, rfl, z, hd, fun e he => by cases he; rfl, g.xf x.cls, g.xn x.cls⟩
  po := fun h => by cases h
  sk := fun h => by cases h
  fr := fun h => by cases h
  rz := fun h => by cases h
  nm := g.nm
  sub := g.sub
  xf := g.xf
  xn := g.xn
  ex := fun h => by
    have h : i = none := h
    subst h
    rfl
theorem raise_ok (g : GS X Y C) {c : Nat} {e : E} {a : Expr} {y : Str} {p pos pos2 : Pos} (cm : C.calm = true) (hc : C.ci c = some y) (hy : glB C.sc y = true) (na : nStar a = true) (ha : EOk X Y e a) : PS X (.Raise (some (.Call (.Name y p) [a] [] pos)) none pos2) (semS Y (.raise c (.cons e .nil))) := by
  obtain ⟨f, fI, fd, ps, k, hf, T, iC, tI, F, rm, bd, hn⟩ := g.rz cm c y hc
  have eK : Y.K.f = X.K := by rw [g.hK]
  obtain ⟨g1, g2⟩ := glB_ok g.sc hy
  have pa := es_cons (xs := []) na (ha.pe true) es_nil
  have mk := pmk_oex (CX := L2.CX X.prog X.w) (p := p) (pos := pos) T iC tI F rm bd .nil (fun _ _ _ _ e s' I c => by obtain ⟨_, _, _, _, _, _, _, _, _, _, _, _, q⟩ := c; exact q.elim) g1 (g.nm c y hc) pa g2 (star_cons na) rfl
  exact (ps_raise (g.cm cm) g.tk mk).imp fun Z σ H q => by
    have q2 := sem_raise hf (by rw [eK]; exact T) (by rw [eK]; exact hn) q
    rw [eK] at q2
    exact q2
theorem asgN_ok (g : GS X Y C) {i : Nat} {e : E} {v : Expr} {y : Str} {py pos : Pos} (h1 : C.N[i]? = some y) (h2 : stoB C.sc C.fb y = true) (h3 : exvN C [i] = true) (h4 : chkE C e v = true) (h5 : nDict v = true) (h6 : swB C y py v = false) : PS X (.Assign [.Name y py] v pos) (semS Y (.asg (.n i) e)) := by
  obtain ⟨l1, l2⟩ := stoB_ok h2
  have ve := e_ok e X Y C g.toGX v h4
  have hN : X.N.Nodup := by rw [g.hN]; exact g.nd
  exact (ps_set hN (by rw [g.hN]; exact h1) (by rw [g.sc]; exact l1) (ve.pe true) (by rw [swB_eq g.sc g.kd h5, h6]) (l2.elim (fun z => .inl (g.fn y z)) fun z => .inr (by rw [g.sc]; exact z))).imp fun Z σ H q => sem_asgN (g.ex1 h3) q
theorem mut_ok (g : GS X Y C) {m : Mt} {r : E} {es : Es} {o : Expr} {args : List Expr} {name : Str} {apos cpos pos : Pos} (h1 : (name == mtName m) = true) (h2 : nCall o = true) (h3 : args.all nStar = true) (h4 : args.length < 30) (h5 : (apos.endLine == cpos.line) = true) (h6 : chkEs C es args = true)
    (h7 : (match r with | .var i => chkVar C i o | r => chkE C r o) = true) : PS X (.Expr (.Call (.Attribute o name apos) args [] cpos) pos) (semS Y (.mut m r es)) := by
  have pa := es_ok es X Y C g.toGX args h6 m.keeps
  have hz := (es_len_of h6 h3).2
  have sw : swapsWith (.Call (.Attribute o name apos) args [] cpos) none pos.line X.env = pure false := rfl
  by_cases hv : ∃ i, r = .var i
  · obtain ⟨i, rfl⟩ := hv
    exact (ps_expr (mth_ok g.toGX h1 h2 h3 h4 h5 hz (var_pe g.toGX h7).1 pa) sw).imp fun Z σ H q => sem_mutV g.hK g.un q
  · have h7 : chkE C r o = true := by
      cases r <;> first | exact h7 | exact absurd ⟨_, rfl⟩ hv
    have hr : rootVar r = none := by
      cases r <;> first | rfl | exact absurd ⟨_, rfl⟩ hv
    exact (ps_expr (mth_ok g.toGX h1 h2 h3 h4 h5 hz ((e_ok r X Y C g.toGX o h7).pe false) pa) sw).imp fun Z σ H q => sem_mut g.hK g.un hr q
theorem sub_plain {o i : Expr} {pos : Pos} (h : nSlice i = true) (v : Value) : assign (.Subscript o i pos) X.env v = (do
      let ov ← holding [v] (eval o X.env)
      let iv ← holding [v, ov] (eval i X.env)
      standAt pos
      holding [v, ov, iv] (setItem ov iv v)
      release [v, ov, iv] []) := by
  cases i <;> first | rfl | (cases h)
theorem setx_ok (g : GS X Y C) {r k v : E} {o i w : Expr} {tpos pos : Pos} (h0 : nSlice i = true) (h1 : nComp w = true) (h2 : chkE C v w = true) (h3 : chkE C k i = true) (h4 : (match r with | .var i => chkVar C i o | r => chkE C r o) = true) : PS X (.Assign [.Subscript o i tpos] w pos) (semS Y (.setx r k v)) := by
  have pv := (e_ok v X Y C g.toGX w h2).pe true
  have pk := (e_ok k X Y C g.toGX i h3).pe false
  have st : swappedStores [Expr.Subscript o i tpos] w X.env = pure none := stores_plain (by rfl)
  have sw : swapsWithSole [Expr.Subscript o i tpos] w pos.line X.env = pure false := (show swapsWith w (some (.Subscript o i tpos)) pos.line X.env = pure false from swap_plain h1)
  have ps := set_all (X := X) g.un
  by_cases hv : ∃ i, r = .var i
  · obtain ⟨j, rfl⟩ := hv
    exact (ps_asg pv (pg_sub (var_pe g.toGX h4).1 pk ps (sub_plain h0)) sw st).imp fun Z σ H q => by
      have q := sem_setxV q
      rw [g.hK] at q
      exact q
  · have h4 : chkE C r o = true := by
      cases r <;> first | exact h4 | exact absurd ⟨_, rfl⟩ hv
    have hr : rootVar r = none := by
      cases r <;> first | rfl | exact absurd ⟨_, rfl⟩ hv
    exact (ps_asg pv (pg_sub ((e_ok r X Y C g.toGX o h4).pe false) pk ps (sub_plain h0)) sw st).imp fun Z σ H q => by
      have q := sem_setx hr q
      rw [g.hK] at q
      exact q
end
end Rw

set_option maxHeartbeats 16000000
/-! L5c: name = comprehension on one line. -/
namespace Rw
open PySem PySem.Spec PyProof.Rows L2

section
variable {X : Cx} {Y : Sx} {C : Ck}
theorem lcN_ok (g : GS X Y C) {i : Nat} {y : Str} {py spos : Pos} (hi0 : C.N[i]? = some y) (hyl : C.sc.names.lookup y = some .local) {e c : E} {t : Tg} {w : It} {own : List Nat} {elt tg it : Expr} {ifs : List Expr} {scope : Scope} {pos : Pos} (cm : C.calm = true) (hb : blkB C.N C.sc scope own = true) (hts : (tgSlots t).all own.contains = true) (hpr : (!prW w || !isN t) = true) (hs : nSet it = true)
    (hi : chkI C w it tg = true) (ht : chkT C.N (C.blk scope).sc (C.blk scope).fb t tg = true) (hc : ifsB (C.blk scope) c ifs = true) (he : chkE (C.blk scope) e elt = true) :
    (swB C y py (.ListComp elt [⟨tg, it, ifs, 0⟩] scope pos) = true → PS X (.Assign [.Name y py] (.ListComp elt [⟨tg, it, ifs, 0⟩] scope pos) spos) (tAsg (semE Y true (.lc e t w c own)) (gName i))) ∧
    (swB C y py (.SetComp elt [⟨tg, it, ifs, 0⟩] scope pos) = true → PS X (.Assign [.Name y py] (.SetComp elt [⟨tg, it, ifs, 0⟩] scope pos) spos) (tAsg (semE Y true (.sc e t w c own)) (gName i))) := by
  have bo := blkB_ok hb
  have gb := fun s H Ca cl fp => g.toGX.blk bo.kind s H Ca cl fp
  have hN : X.N.Nodup := by rw [g.hN]; exact g.nd
  have bo' : BlkOk X.N X.env.scope scope (ownP C.N own) := by rw [g.hN, g.sc]; exact bo
  have hy : X.N[i]? = some y := by rw [g.hN]; exact hi0
  have hl : X.env.scope.names.lookup y = some .local := by rw [g.sc]; exact hyl
  have ptg : ∀ (s : Shared) (H : HpC) (Ca : Addr) (cl : List (Str × Addr)) (fp : List Addr), PG (X.blk s H scope (compEnvC scope cl Ca X.env) fp) tg (semT Y.K t) := fun s H Ca cl fp => by
    have gb := gb s H Ca cl fp
    rw [g.hK]
    exact pg_T (by rw [gb.hN]; exact gb.nd) (gb.cm cm) gb.sc gb.fn t tg (by rw [gb.hN]; exact ht)
  have hpr' : prW w = true → isN t = false := fun z => by rw [z] at hpr; simpa using hpr
  have pw := i_ok w X Y C g.toGX it tg hi false
  constructor
  · intro sw
    have p := ps_setLc (pos := pos) (spos := spos) (py := py) (g.cm cm) hN hy hl (by rw [swB_eq g.sc g.kd rfl, sw]) pw bo' ptg (fun s H Ca cl fp => ifs_ok (e_ok c _ _ _ (gb s H Ca cl fp)) hc) (fun s H Ca cl fp => (e_ok e _ _ _ (gb s H Ca cl fp) _ he).pe true) (fold_plain hs)
    rw [ownP_snd] at p
    exact p.imp fun Z σ H q => sem_lc hpr' (all_mem hts) q
  · intro sw
    have p := ps_setScK (pos := pos) (spos := spos) (py := py) (g.cm cm) hN hy hl (by rw [swB_eq g.sc g.kd rfl, sw]) pw bo' ptg (fun s H Ca cl fp => ifs_ok (e_ok c _ _ _ (gb s H Ca cl fp)) hc) (fun s H Ca cl fp => (e_ok e _ _ _ (gb s H Ca cl fp) _ he).pe true) (fold_plain hs)
    rw [ownP_snd] at p
    refine p.imp fun Z σ H q => ?_
    have q := sem_sc hpr' (all_mem hts) q
    rw [g.hK] at q ⊢
    exact q
theorem lc2N_ok (g : GS X Y C) {i : Nat} {y : Str} {py spos : Pos} (hi0 : C.N[i]? = some y) (hyl : C.sc.names.lookup y = some .local) {e c c1 : E} {t t1 : Tg} {w w1 : It} {own own1 : List Nat} {elt tg it tg1 it1 : Expr} {ifs ifs1 : List Expr} {scope : Scope} {pos : Pos} (cm : C.calm = true) (hb : blkB C.N C.sc scope own = true) (hoo : own1.all own.contains = true) (hts : (tgSlots t).all own.contains = true) (hts1 : (tgSlots t1).all own1.contains = true) (hpr : (!prW w || !isN t) = true) (hpr1 : (!prW w1 || !isN t1) = true) (hs : nSet it = true) (hs1 : nSet it1 = true)
    (hi : chkI C w it tg = true) (hi1 : chkI (C.blk scope) w1 it1 tg1 = true) (ht : chkT C.N (C.blk scope).sc (C.blk scope).fb t tg = true) (ht1 : chkT C.N (C.blk scope).sc (C.blk scope).fb t1 tg1 = true) (hc : ifsB (C.blk scope) c ifs = true) (hc1 : ifsB (C.blk scope) c1 ifs1 = true) (he : chkE (C.blk scope) e elt = true)
    (sw : swB C y py (.ListComp elt [⟨tg, it, ifs, 0⟩, ⟨tg1, it1, ifs1, 0⟩] scope pos) = true) : PS X (.Assign [.Name y py] (.ListComp elt [⟨tg, it, ifs, 0⟩, ⟨tg1, it1, ifs1, 0⟩] scope pos) spos) (tAsg (semE Y true (.lc2 e t w c t1 w1 c1 own own1)) (gName i)) := by
  have bo := blkB_ok hb
  have gb := fun s H Ca cl fp => g.toGX.blk bo.kind s H Ca cl fp
  have hN : X.N.Nodup := by rw [g.hN]; exact g.nd
  have bo' : BlkOk X.N X.env.scope scope (ownP C.N own) := by rw [g.hN, g.sc]; exact bo
  have hy : X.N[i]? = some y := by rw [g.hN]; exact hi0
  have hl : X.env.scope.names.lookup y = some .local := by rw [g.sc]; exact hyl
  have ptg : ∀ (t : Tg) (tg : Expr), chkT C.N (C.blk scope).sc (C.blk scope).fb t tg = true → ∀ (s : Shared) (H : HpC) (Ca : Addr) (cl : List (Str × Addr)) (fp : List Addr), PG (X.blk s H scope (compEnvC scope cl Ca X.env) fp) tg (semT Y.K t) := fun t tg ht s H Ca cl fp => by
    have gb := gb s H Ca cl fp
    rw [g.hK]
    exact pg_T (by rw [gb.hN]; exact gb.nd) (gb.cm cm) gb.sc gb.fn t tg (by rw [gb.hN]; exact ht)
  have hpr' : prW w = true → isN t = false := fun z => by rw [z] at hpr; simpa using hpr
  have hpr1' : prW w1 = true → isN t1 = false := fun z => by rw [z] at hpr1; simpa using hpr1
  have pw := i_ok w X Y C g.toGX it tg hi false
  have p := ps_setLc2 (pos := pos) (spos := spos) (py := py) (vs1 := own1) (g.cm cm) hN hy hl (by rw [swB_eq g.sc g.kd rfl, sw]) pw bo' (by rw [ownP_snd]; exact all_mem hoo) (ptg t tg ht) (fun s H Ca cl fp => ifs_ok (e_ok c _ _ _ (gb s H Ca cl fp)) hc) (fun s H Ca cl fp => i_ok w1 _ _ _ (gb s H Ca cl fp) _ _ hi1 true) (ptg t1 tg1 ht1) (fun s H Ca cl fp => ifs_ok (e_ok c1 _ _ _ (gb s H Ca cl fp)) hc1)
    (fun s H Ca cl fp => (e_ok e _ _ _ (gb s H Ca cl fp) _ he).pe true) (fold_plain hs) (fun env => fold_plain hs1)
  rw [ownP_snd] at p
  exact p.imp fun Z σ H q => sem_lc2 hpr' (all_mem hts) hpr1' (all_mem hts1) (all_mem hoo) q
theorem asgC0 (g : GS X Y C) {i : Nat} {y : Str} {py spos : Pos} (hi0 : C.N[i]? = some y) (hyl : C.sc.names.lookup y = some .local) (e : E) {v : Expr} (hn : nHeap e = true) (h : chkE C e v = true) (sw : swB C y py v = true) : PS X (.Assign [.Name y py] v spos) (tAsg (semE Y true e) (gName i)) := by
  cases e with
  | heap e => cases hn
  | lc e t w c own =>
    unfold chkE at h
    split at h
    · simp only [Bool.and_eq_true] at h
      obtain ⟨⟨⟨⟨⟨⟨⟨⟨h1, h2⟩, h3⟩, h4⟩, h5⟩, h6⟩, h7⟩, h8⟩, h9⟩ := h
      exact (lcN_ok g hi0 hyl h1 h2 h3 h4 h5 h6 h7 h8 h9).1 sw
    · cases h
  | sc e t w c own =>
    unfold chkE at h
    split at h
    · simp only [Bool.and_eq_true] at h
      obtain ⟨⟨⟨⟨⟨⟨⟨⟨h1, h2⟩, h3⟩, h4⟩, h5⟩, h6⟩, h7⟩, h8⟩, h9⟩ := h
      exact (lcN_ok g hi0 hyl h1 h2 h3 h4 h5 h6 h7 h8 h9).2 sw
    · cases h
  | lc2 e t w c t1 w1 c1 own own1 =>
    unfold chkE at h
    split at h
    · simp only [Bool.and_eq_true] at h
      obtain ⟨⟨⟨⟨⟨⟨⟨⟨⟨⟨⟨⟨⟨⟨⟨h1, h2⟩, h3⟩, h4⟩, h5⟩, h6⟩, h7⟩, h8⟩, h9⟩, h10⟩, h11⟩, h12⟩, h13⟩, h14⟩, h15⟩, h16⟩ := h
      exact lc2N_ok g hi0 hyl h1 h2 h3 h4 h5 h6 h7 h8 h9 h10 h11 h12 h13 h14 h15 h16 sw
    · cases h
  | con d =>
    exfalso
    cases v <;> first
      | (cases sw; done)
      | (cases d <;> cases h)
  | dsp ks vs =>
    exfalso
    have h : chkDsp ks vs v = true := h
    unfold chkDsp at h
    split at h <;> first | (cases sw; done) | cases h
  | ofIt tup w =>
    exfalso
    unfold chkE at h
    rw [Bool.and_eq_true] at h
    obtain ⟨_, h⟩ := h
    split at h <;> first | (cases sw; done) | cases h
  | _ =>
    exfalso
    cases v <;> first
      | (cases sw; done)
      | (unfold chkE at h; cases h; done)
theorem asgC_te (g : GS X Y C) {i : Nat} {y : Str} {py spos : Pos} (hi0 : C.N[i]? = some y) (hyl : C.sc.names.lookup y = some .local) (e : E) {v : Expr} (h : chkE C e v = true) (sw : swB C y py v = true) : PS X (.Assign [.Name y py] v spos) (tAsg (semE Y true e) (gName i)) := by
  cases hn : nHeap e with
  | true => exact asgC0 g hi0 hyl e hn h sw
  | false =>
    cases e <;> first
      | (cases hn; done)
      | skip
    unfold chkE at h
    rw [Bool.and_eq_true, Bool.and_eq_true] at h
    exact (asgC0 g hi0 hyl _ h.1.2 h.2 sw).imp fun Z σ H q => sem_heap q
end
end Rw

set_option maxHeartbeats 16000000
/-! L5d: the checker's yes for every statement. -/
namespace Rw
open PySem PySem.Spec PyProof.Rows L2

section
variable {X : Cx} {Y : Sx} {C : Ck}
theorem fb_of (g : GS X Y C) {y : Str} (h : stoB C.sc C.fb y = true) : Loc X.env.scope y ∧ (X.fn y = true ∨ X.env.scope.names.lookup y = some .local) := by
  obtain ⟨l1, l2⟩ := stoB_ok h
  rw [g.sc]
  exact ⟨l1, l2.elim (fun z => .inl (g.fn y z)) .inr⟩
theorem asg_okN (g : GS X Y C) {i : Nat} {e : E} {v : Expr} {y : Str} {py pos : Pos} (h : (C.N[i]? == some y && stoB C.sc C.fb y && exvN C [i] && chkE C e v && nDict v && (!swB C y py v || C.sc.names.lookup y == some .local)) = true) : PS X (.Assign [.Name y py] v pos) (semS Y (.asg (.n i) e)) := by
  simp only [Bool.and_eq_true] at h
  obtain ⟨⟨⟨⟨⟨h1, h2⟩, h3⟩, h4⟩, h5⟩, h6⟩ := h
  have h1 : C.N[i]? = some y := eq_of_beq h1
  cases sw : swB C y py v with
  | false => exact asgN_ok g h1 h2 h3 h4 h5 sw
  | true =>
    rw [sw] at h6
    have hl : C.sc.names.lookup y = some .local := eq_of_beq (by simpa using h6)
    exact (asgC_te g h1 hl e h4 sw).imp fun Z σ H q => sem_asgN (g.ex1 h3) q
theorem asg_okT (g : GS X Y C) {ts : Tgs} {e : E} {tg v : Expr} {pos : Pos} (h : (C.calm && chkT C.N C.sc C.fb (.t ts) tg && exvN C (tgSlots (.t ts)) && (nTup v || cellT C.sc tg) && nComp v && chkE C e v) = true) : PS X (.Assign [tg] v pos) (semS Y (.asg (.t ts) e)) := by
  simp only [Bool.and_eq_true] at h
  obtain ⟨⟨⟨⟨⟨h1, h2⟩, h3⟩, h4⟩, h5⟩, h6⟩ := h
  have pt : PG X tg (semT Y.K (.t ts)) := by
    rw [g.hK]
    exact pg_T (by rw [g.hN]; exact g.nd) (g.cm h1) g.sc g.fn (.t ts) tg (by rw [g.hN]; exact h2)
  have st : swappedStores [tg] v X.env = pure none := by
    rcases Bool.or_eq_true_iff.mp h4 with z | z
    · exact stores_plain (by rw [z, Bool.or_true])
    · exact stores_cell g.sc z
  have et : (assignEach [tg] X.env).map (·.2) = [assign tg X.env] := by
    cases tg <;> first
      | rfl
      | (simp [chkT] at h2)
  exact (ps_asg ((e_ok e X Y C g.toGX v h6).pe true) pt (show swapsWith v (some tg) pos.line X.env = pure false from swap_plain h5) st et).imp fun Z σ H q => sem_asgT rfl (g.exN h3) q
end
mutual
theorem s_ok : ∀ (s : S) (X : Cx) (Y : Sx) (C : Ck), GS X Y C → ∀ x, chkS C s x = true → PS X x (semS Y s)
  | .expr e, X, Y, C, g, x, h => by
    unfold chkS at h
    split at h
    · rw [Bool.and_eq_true] at h
      exact (ps_expr ((e_ok e X Y C g.toGX _ h.2).pe false) (swap_plain h.1)).imp fun Z σ H q => sem_expr q
    · cases h
  | .mut m r es, X, Y, C, g, x, h => by
    unfold chkS at h
    split at h
    · rw [Bool.and_eq_true, Bool.and_eq_true, Bool.and_eq_true, Bool.and_eq_true, Bool.and_eq_true, Bool.and_eq_true, decide_eq_true_iff] at h
      obtain ⟨⟨⟨⟨⟨⟨h1, h2⟩, h3⟩, h4⟩, h5⟩, h6⟩, h7⟩ := h
      exact mut_ok g h1 h2 h3 h4 h5 h6 h7
    · cases h
  | .asg t e, X, Y, C, g, x, h => by
    unfold chkS at h
    split at h
    · split at h
      · exact asg_okN g h
      · exact asg_okT g h
      · cases h
    · cases h
  | .par is es, X, Y, C, g, x, h => by
    unfold chkS at h
    split at h
    · rw [Bool.and_eq_true, Bool.and_eq_true] at h
      obtain ⟨⟨cm, hp⟩, h⟩ := h
      split at h
      · simp only [Bool.and_eq_true] at h
        obtain ⟨⟨⟨⟨⟨⟨h1, h2⟩, h3⟩, h4⟩, h5⟩, h6⟩, h7⟩ := h
        have hij := bne_iff_ne.mp h3
        have hp' := hp
        unfold parB at hp'
        simp only [Bool.and_eq_true] at hp'
        obtain ⟨⟨⟨⟨⟨⟨⟨l1, l2⟩, _⟩, _⟩, n1⟩, n2⟩, _⟩, _⟩ := hp'
        refine (ps_par (g.cm cm) (by rw [g.hN]; exact g.nd) (by rw [g.hN]; exact eq_of_beq h1) (by rw [g.hN]; exact eq_of_beq h2) hij (by rw [g.sc]; exact eq_of_beq l1) (by rw [g.sc]; exact eq_of_beq l2)
          (pa_cons ((e_ok _ X Y C g.toGX _ h6).pe true) (pa_cons ((e_ok _ X Y C g.toGX _ h7).pe true) pa_nil (star_cons n2)) (star_cons n1)) (par_swap g.sc g.kd hp) rfl).imp fun Z σ H q => sem_par hij (g.ex1 h4) (g.ex1 h5) q
      · cases h
    · cases h
  | .setx r k v, X, Y, C, g, x, h => by
    unfold chkS at h
    split at h
    · rw [Bool.and_eq_true, Bool.and_eq_true, Bool.and_eq_true, Bool.and_eq_true] at h
      obtain ⟨⟨⟨⟨h0, h1⟩, h2⟩, h3⟩, h4⟩ := h
      exact setx_ok g h0 h1 h2 h3 h4
    · cases h
  | .aug i o e, X, Y, C, g, x, h => by
    unfold chkS at h
    split at h
    · simp only [Bool.and_eq_true, decide_eq_true_iff] at h
      obtain ⟨⟨⟨⟨⟨h1, h2⟩, h3⟩, h4⟩, h5⟩, h6⟩ := h
      subst h4
      obtain ⟨f1, f2⟩ := fb_of g h2
      have ho : o = .add ∨ o = .sub := by cases o <;> first | exact .inl rfl | exact .inr rfl | (simp at h5)
      exact (ps_aug (by rw [g.hN]; exact g.nd) (by rw [g.hN]; exact eq_of_beq h1) f1 ((e_ok e X Y C g.toGX _ h6).pe false) (ip_of o ho) f2).imp fun Z σ H q => sem_aug (g.ex1 h3) q
    · cases h
  | .ret e, X, Y, C, g, x, h => by
    unfold chkS at h
    split at h
    · exact (ps_ret ((e_ok e X Y C g.toGX _ h).pe true)).imp fun Z σ H q => sem_ret q
    · cases h
  | .retv i, X, Y, C, g, x, h => by
    unfold chkS at h
    split at h
    · exact (ps_ret (var_pe g.toGX h).1).imp fun Z σ H q => sem_retv q
    · cases h
  | .retN, X, Y, C, g, x, h => by
    unfold chkS at h
    split at h
    · exact ps_retN.imp fun Z σ H q => sem_retN q
    · cases h
  | .ifs c a b, X, Y, C, g, x, h => by
    unfold chkS at h
    split at h
    · rw [Bool.and_eq_true, Bool.and_eq_true] at h
      exact (ps_if (e_ok c X Y C g.toGX _ h.1.1).pt (ss_ok a X Y C g _ h.1.2) (ss_ok b X Y C g _ h.2)).imp fun Z σ H q => sem_ifs q
    · cases h
  | .for_ t w b, X, Y, C, g, x, h => by
    unfold chkS at h
    split at h
    · simp only [Bool.and_eq_true] at h
      obtain ⟨⟨⟨⟨⟨⟨cm, h1⟩, h2⟩, h3⟩, h4⟩, h5⟩, h6⟩ := h
      rename_i tg it body pos
      have pt : PG X tg (semT Y.K t) := by
        rw [g.hK]
        exact pg_T (by rw [g.hN]; exact g.nd) (g.cm cm) g.sc g.fn t _ (by rw [g.hN]; exact h3)
      exact (ps_for (g.po cm) (g.cm cm) (i_ok w X Y C g.toGX _ _ h2 true) pt (ss_ok b X Y C g _ h6) (fold_plain h1)).imp fun Z σ H q => sem_for (fun z => by rw [z] at h5; simpa using h5) (g.exN h4) q
    · cases h
  | .while_ c b, X, Y, C, g, x, h => by
    unfold chkS at h
    split at h
    · rw [Bool.and_eq_true, Bool.and_eq_true] at h
      exact (ps_while (g.po h.1.1) (e_ok c X Y C g.toGX _ h.1.2).pt (ss_ok b X Y C g _ h.2)).imp fun Z σ H q => sem_while q
    · cases h
  | .raise c es, X, Y, C, g, x, h => by
    unfold chkS at h
    split at h
    · simp only [Bool.and_eq_true] at h
      obtain ⟨⟨⟨⟨cm, h1⟩, h2⟩, h3⟩, h4⟩ := h
      split at h4
      · exact raise_ok g cm (eq_of_beq h1) h2 h3 (e_ok _ X Y C g.toGX _ h4)
      · cases h4
    · cases h
  | .try_ b hs, X, Y, C, g, x, h => by
    unfold chkS at h
    split at h
    · simp only [Bool.and_eq_true, decide_eq_true_iff] at h
      obtain ⟨⟨⟨cm, hx⟩, h1⟩, h2⟩ := h
      exact (ps_tryAll (g.sk cm) (g.fr cm) (by rw [g.hN]; exact g.nd) g.tk (fun W pn xe tk po => ss_ok b _ _ C (g.tr cm hx tk po) _ h1) (hs_ok hs X Y C g _ h2)).imp fun Z σ H q => by
        have q := sem_try (g.ex hx) g.sub q
        rw [g.hK] at q
        exact q
    · cases h
  | .pass, X, Y, C, g, x, h => by
    unfold chkS at h
    split at h
    · exact ps_pass.imp fun Z σ H q => sem_pass q
    · exact ps_doc.imp fun Z σ H q => sem_pass q
    · cases h
  | .brk, X, Y, C, g, x, h => by
    unfold chkS at h
    split at h
    · exact ps_break.imp fun Z σ H q => sem_brk q
    · cases h
  | .cnt, X, Y, C, g, x, h => by
    unfold chkS at h
    split at h
    · exact ps_continue.imp fun Z σ H q => sem_cnt q
    · cases h
  | .frz is s, X, Y, C, g, x, h => (s_ok s X Y C g x h).imp fun Z σ H q => sem_frz q
theorem ss_ok : ∀ (s : Ss) (X : Cx) (Y : Sx) (C : Ck), GS X Y C → ∀ xs, chkSs C s xs = true → PSs X xs (semSs Y s)
  | .nil, X, Y, C, g, [], h => pss_nil.imp fun Z σ H q => sem_snil q
  | .nil, X, Y, C, g, _ :: _, h => by simp [chkSs] at h
  | .cons s r, X, Y, C, g, [], h => by simp [chkSs] at h
  | .cons s r, X, Y, C, g, x :: xs, h => by
    simp only [chkSs, Bool.and_eq_true] at h
    exact (pss_cons (s_ok s X Y C g x h.1) (ss_ok r X Y C g xs h.2)).imp fun Z σ H q => sem_scons q
theorem hs_ok : ∀ (s : Hs) (X : Cx) (Y : Sx) (C : Ck), GS X Y C → ∀ xs, chkHs C s xs = true → ClsOk X xs (clsL Y s)
  | .nil, X, Y, C, g, [], h => .nil
  | .nil, X, Y, C, g, _ :: _, h => by simp [chkHs] at h
  | .cons c i b r, X, Y, C, g, xs, h => by
    unfold chkHs at h
    split at h
    · rename_i e
      cases e
    · rename_i e
      cases e
      rename_i y np n st body p hds
      simp only [Bool.and_eq_true] at h
      obtain ⟨⟨⟨⟨h1, h2⟩, h3⟩, h4⟩, h5⟩ := h
      have nm : Names X y (.ref (Y.ca c)) := by
        obtain ⟨g1, g2⟩ := glB_ok g.sc h2
        exact ⟨g1, g2, .inl (g.nm c y (eq_of_beq h1))⟩
      have su : ∀ (a : Addr) (oe : Obj) (cls : Value) (d : Option Addr) (pn : List (Addr × Obj)), Zc cls d oe → (∃ vs, oe.data = .fields vs) → PSs (X.suite a ((a, oe) :: pn)) (st :: body) (semH Y i b a cls d) := fun a oe cls d pn z hd =>
        ⟨fun pins s σ H Z I ⟨x, dd, e1, e2, q⟩ => by
          subst e1
          subst e2
          exact (ss_ok b _ _ _ (g.suite z hd) _ h4).run pins s σ H Z I q⟩
      have rest := hs_ok r X Y _ g hds h5
      cases i with
      | none =>
        cases n with
        | none => exact .bare nm su rest
        | some n => cases h3
      | some i =>
        cases n with
        | none => cases h3
        | some n =>
          rw [Bool.and_eq_true] at h3
          exact .as_ (by rw [g.hN]; exact eq_of_beq h3.1) (by show X.env.scope.names.lookup n = _; rw [g.sc]; exact eq_of_beq h3.2) nm su rest
    · cases h
end
end Rw

set_option maxHeartbeats 8000000
/-! L6a: a def keeps its promise. -/
namespace Rw
open PySem PySem.Spec PyProof.Rows L2

theorem RoomK.deeper {k : Nat} {A : Around} (r : RoomK (k + 1) A) (env : PySem.Env) : RoomK k (A.deeper env) := ⟨r.r.deeper env, r.g⟩
/-- a def of the text, by its body -/
theorem fnk_of {CX : CXT} {P : Program} {w : World} {K : PySem.W.Frag} {mg : Str → Option Value} {base : Heap} {k : Nat} {f : Addr} {name qual : Str} {params : Arguments} {body : List Stmt} {scope : Scope} {dV kV doc pm cdv ct oc : Value} {an od : Option Addr}
    {osl : Array (Option Value)} {N ps : List Str} {sp : L2.Sp} (lk : K.lookup f = some ⟨oc, od, .func (PySem.W.fnOf name qual params body scope dV kV doc pm an cdv ct), osl⟩) (hcd : PySem.W.codeIn K cdv qual = true) (S : FnScope N ps scope)
    (len : ∀ vs H Q E, sp vs H Q E → vs.length = ps.length)
    (hbody : ∀ (A : Around) (outer : List PySem.Env) (s : Shared) (H : HpC) (vs : List V) (Q : VK) (E : L2.XK), RoomK k (A.deeper (envOfC qual scope s.heap.objs.size f cdv)) → sp vs H Q E →
      ∃ t, PSs (cxOf CX P w K mg base N qual scope f cdv A outer s H E) body t ∧ t { nx := fun _ H' => Q .non H', rt := Q } (start N vs) H) :
    FnK P w K mg base CX (k + 1) f (PySem.W.fnOf name qual params body scope dV kV doc pm an cdv ct) ps sp := by
  refine ⟨len, fun A outer s H args us vs Q E hr e0 hb r hsp => ?_⟩
  have hl := len _ _ _ _ hsp
  have kin : K.In s.heap := e0.mod.kin.keeps fun b o e => (e0.bs b o e).1
  have nl : s.heap.NoLimit := e0.mod.nolimit.keeps fun b o e => (e0.bs b o e).1
  have kinds : ∀ y ∈ ps.zip us, scope.names.lookup y.1 = some .local ∨ (scope.names.lookup y.1 = some .cell ∧ ((cellsFrom (s.heap.objs.size + 1) scope.names []).lookup y.1).isSome = true) := fun ⟨n, v⟩ hy =>
    (S.par n (List.of_mem_zip hy).1).elim .inl fun q => .inr ⟨q, PySem.W.cellsFrom_some _ _ _ (.inl q)⟩
  refine codeAny_call_function hr.r.depth (kin _ _ lk) rfl S.co S.gen rfl (PySem.W.codeRec_of kin hcd) (hb _ _ _ _ (wpAny_newFunctionEnv_cells S.kind kinds fun env he s1 x => ?_))
  subst he
  refine ⟨nl.keeps x.toInCall.keep, codeAny_func ?_⟩
  obtain ⟨t, ht, hq⟩ := hbody A outer s H vs Q E (hr.deeper _) hsp
  have J0 : Inv (cxOf CX P w K mg base N qual scope f cdv A outer s H E) [] (start N vs) H s1 := inv_start S hr.r.hd e0 hl r x
  refine wpAny_mono (ht.run [] s1 (start N vs) H _ J0 hq) (fun fl s' hs => ?_) fun e s' hs => hs
  have done : ∀ {σ' : L2.St} {H' : HpC} {v : V} {u : Value}, Inv (cxOf CX P w K mg base N qual scope f cdv A outer s H E) [] σ' H' s' → RelV v u → Q v H' → CE outer P w H s Q u s' :=
    fun {σ' H' v u} J rv q => ⟨v, H', J.os, J.bare, J.base, J.hok, rv, q⟩
  cases fl with
  | ret u =>
    obtain ⟨v, σ', H', J, rv, q⟩ := hs
    exact done J rv q
  | next =>
    obtain ⟨σ', H', J, q⟩ := hs
    exact done (v := V.non) (u := Value.none) J rfl q
  | brk => exact hs.elim fun _ z => z.elim fun _ z => z.2.elim
  | cont => exact hs.elim fun _ z => z.elim fun _ z => z.2.elim
/-- the interpreter's call is the body's reading at the entry -/
theorem body_start {Y : Sx} {F : Fn} {N : List Str} {cap : Bool} {vs : List V} {ds : List D} {h : Hp} {H : HpC} {b : List Addr} {G : Addr → Prop} {Q : VK} {E : L2.XK} (hW : Y.W = fun cls d _ H => E cls d H) (hcx : Y.cx = none) (hex : Y.exv = none) (hN : F.slots = N.length) (hp : F.params ≤ N.length) (s : VS Y.K H b G h) (r : Reps Y.K H (wof b G) b vs ds)
    (run : Run Y.K Y.ca cap H b G (runFn Y.P F ds h) Q E) : semSs Y F.body { nx := fun _ H' => Q .non H', rt := Q } (start N vs) H := by
  unfold runFn at run
  split at run
  · rename_i hl
    have hlen := r.length
    have get : ∀ (i : Nat) (sl : Sl), (ds.map (fun d => some (⟨d, false⟩ : Sl)) ++ List.replicate (F.slots - F.params) none)[i]? = some (some sl) → ∃ d, ds[i]? = some d ∧ sl = ⟨d, false⟩ := fun i sl e => by
      by_cases hi : i < ds.length
      · rw [List.getElem?_append_left (by rw [List.length_map]; exact hi), List.getElem?_map] at e
        rw [List.getElem?_eq_getElem hi] at e ⊢
        cases e
        exact ⟨_, rfl, rfl⟩
      · rw [List.getElem?_append_right (by rw [List.length_map]; omega), List.getElem?_replicate] at e
        split at e <;> cases e
    refine ⟨ds.map (fun d => some (⟨d, false⟩ : Sl)) ++ List.replicate (F.slots - F.params) none, h, b, G, G, ⟨⟨s, fun i sl e => ?_, ?_, fun x hx => ?_, fun p hpp => ?_⟩, fun _ z => z, fun i d e => ?_, fun i j d e _ z _ => ?_⟩, ?_⟩
    · obtain ⟨d, e1, e2⟩ := get i sl e
      subst e2
      obtain ⟨v, e3, rv⟩ := r.at e1
      have hi : i < vs.length := (List.getElem?_eq_some_iff.mp e3).1
      refine ⟨v, ?_, by simpa [SlotOk] using rv⟩
      unfold L2.start
      rw [List.getElem?_append_left (by rw [List.length_map]; exact hi), List.getElem?_map, e3]; rfl
    · unfold L2.start
      simp only [List.length_append, List.length_map, List.length_replicate]
      omega
    · rw [hcx] at hx; cases hx
    · rw [hex] at hpp; cases hpp
    · obtain ⟨d', _, e2⟩ := get i _ e
      cases e2
    · obtain ⟨d', _, e2⟩ := get i _ z
      cases e2
    · rw [hcx]
      have fin : ∀ (v : V) (d : D) (own : Bool) (h1 : Hp) (H' : HpC) (b' : List Addr) (G' : Addr → Prop), Run Y.K Y.ca cap H b G (.ok (d, own, h1)) Q E → SExt G H b G H' b' G' → VS Y.K H' b' G' h1 → (∀ a, G a → G' a) → RtOk Y.K G H' b' G' v d own → Q v H' := fun v d own h1 H' b' G' run x s' sub rt => by
        have x0 : Ext H b G H' b' G' := ⟨fun a o e n => ⟨(x.keep a o e n fun z => z).1, (x.keep a o e n fun z => z).2.1⟩, x.pre, x.new, x.there⟩
        unfold RtOk at rt
        cases own with
        | true =>
          obtain ⟨a, e1, ga, na, t⟩ : ∃ a, v = .ref a ∧ G' a ∧ ¬ G a ∧ TopAt Y.K H' (wof b' G') b' a d := by simpa using rt
          have less : ∀ p, plus G a p → G' p := fun p z => z.elim (sub p) fun z => z ▸ ga
          exact run v H' b' (plus G a) (x0.less less) (s'.less less) (by
            unfold Res
            rw [if_pos rfl]
            exact ⟨a, e1, na, rfl, t.kept (Kept.lessG less) rfl⟩)
        | false =>
          have rt : Rep Y.K H' (wof b' G') b' v d := by simpa using rt
          exact run v H' b' G (x0.less sub) (s'.less sub) (Res.plain (rt.kept (Kept.lessG sub)))
      generalize er : evSs Y.P none F.body (ds.map (fun d => some (⟨d, false⟩ : Sl)) ++ List.replicate (F.slots - F.params) none) h = res at run ⊢
      cases res with
      | nx env1 h1 => exact fun σ' H' b' G' x B' => fin .non .non false h1 H' b' G' run x B'.bd.vs B'.sub .non
      | rt d own h1 => exact fun v H' b' G' x s' sub rt => fin v d own h1 H' b' G' run x s' sub rt
      | exn y env1 h1 =>
        intro dd σ' H' b' G' x B' xa
        rw [hW]
        have x0 : Ext H b G H' b' G' := ⟨fun a o e n => ⟨(x.keep a o e n fun z => z).1, (x.keep a o e n fun z => z).2.1⟩, x.pre, x.new, x.there⟩
        exact run dd H' b' (x0.less B'.sub) (B'.bd.vs.less B'.sub) (xa.less B'.sub)
      | bk _ _ => exact False.elim run
      | ct _ _ => exact False.elim run
      | bad => exact False.elim run
  · exact False.elim run
end Rw

set_option maxHeartbeats 8000000
/-! L6b: what surrounds a def's body. -/
namespace Rw
open PySem PySem.Spec PyProof.Rows L2

section
variable {P : Program} {w : World} {K : PySem.W.Frag} {mg : Str → Option Value} {base : Heap} {N : List Str} {qual : Str} {scope : Scope} {f : Addr} {cd : Value} {A : Around} {outer : List PySem.Env} {s : Shared} {H : HpC} {E : L2.XK}
theorem takes_cx : Takes (cxOf (L2.CX P w) P w K mg base N qual scope f cd A outer s H E) (fun cls d _ H => E cls d H) := takes_of rfl rfl rfl rfl
theorem passes_cx : PassesOwn (model P w) (cxOf (L2.CX P w) P w K mg base N qual scope f cd A outer s H E).A (cxOf (L2.CX P w) P w K mg base N qual scope f cd A outer s H E).env (cxOf (L2.CX P w) P w K mg base N qual scope f cd A outer s H E).xe := passes_of (X := cxOf (L2.CX P w) P w K mg base N qual scope f cd A outer s H E) rfl
end
end Rw

set_option maxHeartbeats 8000000
/-! L6c: an error class's own __init__, which calls its base's. -/
namespace Rw
open PySem PySem.Spec PyProof.Rows L2

/-- the base class: its __init__ is ValueError's -/
structure RelC (K : PySem.W.Frag) (B : Addr) : Prop where
  sp : PySem.W.specialIn K (.ref B) "__getattribute__" = some (some (.builtin "type.__getattribute__"))
  rd : PySem.W.readsIn K B (.type "type") = true
  fc : PySem.W.findCls K (.ref B) (.type "type") "__init__" = some (.val (.builtin "ValueError.__init__"))
theorem pe_binit {X : Cx} {x : Str} {B : Addr} {e : Expr} {es : List Expr} {ta : TA} {p1 p2 pos : Pos} (hg : Gl X x) (hm : X.mg x = some (.ref B)) (R : RelC X.K B) (hdb : (x == ("__debug__" : Str)) = false) (ha : PA X (e :: es) ta) (hs : (e :: es).all nStar = true) (hl : (e :: es).length < 30)
    (hp : (p2.endLine == pos.line) = true) : PE X (.Call (.Attribute (.Name x p1) "__init__" p2) (e :: es) [] pos) (tVeI X.K ta) := by
  have hs' := hs
  rw [List.all_cons, Bool.and_eq_true] at hs'
  refine ⟨fun pins s σ H Q I h => ?_⟩
  have hf : methodCallForm ((e :: es).length + ([] : List Keyword).length) (backTo pos (starEach (e :: es) X.env)) (backToKw pos (keywordEach [] X.env)) = true := by
    unfold methodCallForm
    rw [star_all hs]
    simpa [backToKw, keywordEach] using hl
  have hc : eval (.Call (.Attribute (.Name x p1) "__init__" p2) (e :: es) [] pos) X.env = (do
      let ov ← eval (.Name x p1) X.env
      standAt p2.atName
      let (f, first) ← holding [ov] (getMethod ov "__init__" (plainOf (.Name x p1) X.env))
      callWith pos f first (backTo pos (starEach (e :: es) X.env)) (backToKw pos (keywordEach [] X.env))) := by
    rw [arm_eval_Call]
    rw [base_plain (show nCall (.Name x p1) = true from rfl)]
    congr 1
    funext ov
    congr 1
    funext _
    exact mcall_line hf hp
  refine PySem.W.methodCall_KW (ld_glob I hg hm ?_ hdb) hc
  refine PySem.W.method_cls I.kIn R.sp (PySem.W.cls_value I.kIn R.rd R.fc (by decide +kernel) ?_)
  show wpAny _ _ (callWith pos (Value.builtin "ValueError.__init__") [] (backTo pos (starEach (e :: es) X.env)) []) _ _ _
  refine PyProof.Rows.callWith_method1 (thn (ha.run pos pins _ σ H _ (I.tok _) h) fun us s1 ⟨vs, H1, I1, r1, a, C, ws, ev, hz, T, ea, q⟩ => ?_) (star_cons hs'.1) (star_any hs'.2)
  subst ev
  cases r1 with
  | @cons _ u0 _ ur ra rw' =>
    obtain rfl : u0 = Value.ref a := ra
    have hlen : ur.length ≤ sizeLine := by
      rw [← Paired.length rw', sizeLine_eq]
      omega
    exact oinit_ok T I1 ea hlen fun s' J => ⟨.non, H1, J, rfl, q⟩
/-- the text of such an __init__ -/
def chkIni (sc : Scope) (base f : Str) : List Stmt → Bool
  | [.Expr (.Call (.Attribute (.Name y _) n p2) [.Name s1 _, .Constant (.str _) _ _] [] pos) _, .Assign [.Attribute (.Name s2 _) g _] (.Name v _) _] =>
    y == base && n == ("__init__" : Str) && s1 == ("self" : Str) && s2 == ("self" : Str) && v == ("given" : Str) && g == f && glB sc base && visB sc "self" && visB sc "given" && (p2.endLine == pos.line)
  | _ => false
theorem ini_ok {P : Program} {w : World} {K : PySem.W.Frag} {mg : Str → Option Value} {base : Heap} {x qual bs f : Str} {params : Arguments} {body : List Stmt} {scope : Scope} {fI B : Addr} {fd : FuncData} (F : FunD K x qual params body scope [] [] fI fd) (S : FnScope ["self", "given"] ["self", "given"] scope)
    (hc : chkIni scope bs f body = true) (R : RelC K B) (hB : mg bs = some (.ref B)) : FnOk P w K mg base (L2.CX P w) 1 fI fd ["self", "given"] (spI K f) := by
  unfold chkIni at hc
  split at hc
  · rename_i y p1 n p2 s1 p3 m k p4 pos p5 s2 p6 g p7 v p8 p9
    simp only [Bool.and_eq_true] at hc
    obtain ⟨⟨⟨⟨⟨⟨⟨⟨⟨h1, h2⟩, h3⟩, h4⟩, h5⟩, h6⟩, h7⟩, h8⟩, h9⟩, h10⟩ := hc
    have h1 := eq_of_beq h1
    have h2 := eq_of_beq h2
    have h3 := eq_of_beq h3
    have h4 := eq_of_beq h4
    have h5 := eq_of_beq h5
    have h6 := eq_of_beq h6
    subst h1 h2 h3 h4 h5 h6
    refine F.ok S (fun vs H Q E z => ?_) fun cdv A outer s H vs Q E hr z => ?_
    · obtain ⟨_, _, _, e, _⟩ := z
      rw [e]; rfl
    · have X := cxOf (L2.CX P w) P w K mg base ["self", "given"] qual scope fI cdv A outer s H E
      have vS : ∀ {p : Pos}, PE (cxOf (L2.CX P w) P w K mg base ["self", "given"] qual scope fI cdv A outer s H E) (.Name "self" p) (tVar 0) := fun {p} => pe_var rfl (visB_ok (sc := scope) h8) (by decide) (by decide)
      have vG : ∀ {p : Pos}, PE (cxOf (L2.CX P w) P w K mg base ["self", "given"] qual scope fI cdv A outer s H E) (.Name "given" p) (tVar 1) := fun {p} => pe_var rfl (visB_ok (sc := scope) h9) (by decide) (by decide)
      obtain ⟨g1, g2⟩ := glB_ok (X := cxOf (L2.CX P w) P w K mg base ["self", "given"] qual scope fI cdv A outer s H E) (sc := scope) rfl h7
      refine ⟨_, pss_cons (ps_expr (pe_binit g1 hB R g2 (pa_cons vS (pa_cons pe_str pa_nil)) rfl (by show 2 < 30; decide) h10)) (pss_one (ps_ost vS vG)), ?_⟩
      obtain ⟨a, C, u, rfl, T, hn, e, q⟩ := z
      refine ⟨.ref a, rfl, a, C, [V.str m], rfl, by show 1 ≤ 1000; decide, T, e, ?_⟩
      exact ⟨u, rfl, .ref a, rfl, a, C, rfl, T, hn, .inl ⟨e, fun d hd ne => q d hd ne⟩⟩
  · cases hc
end Rw

set_option maxHeartbeats 8000000
/-! L6d: a pure call; every def of the table. -/
namespace Rw
open PySem PySem.Spec PyProof.Rows L2

section
variable {K : Kx} {H : HpC} {W W' : Addr → Prop} {b b' : List Addr}
mutual
/-- data without cells: the cells' places do not matter -/
theorem Rep.clo (hW : ∀ a, H a ≠ none → W' a → W a) : ∀ {v : V} {d : D}, clo d = true → Rep K H W b v d → Rep K H W' b' v d
  | _, _, _, .non => .non
  | _, _, _, .bl x => .bl x
  | _, _, _, .int i => .int i
  | _, _, _, .str x => .str x
  | _, _, c, .tup h r => .tup (h.elim (fun ⟨o, e, n, w⟩ => .inl ⟨o, e, n, fun z => w (hW _ (by rw [e]; exact fun z => nomatch z) z)⟩) .inr) (Reps.clo hW (by simpa [Rw.clo] using c) r)
  | _, _, c, .lst h r => .lst (h.elim (fun ⟨e, w⟩ => .inl ⟨e, fun z => w (hW _ (by rcases e with e | ⟨o, e⟩ <;> (rw [e]; exact fun z => nomatch z)) z)⟩) .inr) (Reps.clo hW (by simpa [Rw.clo] using c) r)
  | _, _, c, .dct e w r => by
    rw [Rw.clo, Bool.and_eq_true] at c
    have c2 := c
    exact .dct e (fun z => w (hW _ (by rcases e with e | ⟨o, e⟩ <;> (rw [e]; exact fun z => nomatch z)) z)) (Reps.clo hW c2.2 r)
  | _, _, _, .set e w s u => .set e (fun z => w (hW _ (by rw [e]; exact fun z => nomatch z) z)) s u
theorem Reps.clo (hW : ∀ a, H a ≠ none → W' a → W a) : ∀ {vs : List V} {ds : List D}, clos ds = true → Reps K H W b vs ds → Reps K H W' b' vs ds
  | _, _, _, .nil => .nil
  | _, _, c, .cons r t => by
    rw [Rw.clos, Bool.and_eq_true] at c
    have c2 := c
    exact .cons (Rep.clo hW c2.1 r) (Reps.clo hW c2.2 t)
end
end
section
variable {K : Kx} {ca : Nat → Addr} {H : HpC} {b : List Addr} {G : Addr → Prop} {h : Hp}
theorem VS.nil (s : VS K H b G h) : VS K H [] (wof b G) [] :=
  ⟨List.nodup_nil, (fun a m => nomatch m), ⟨rfl, fun n c a e => by simp at e⟩, fun a z => z.elim (s.liveB a) (s.live a)⟩
theorem clos_lookup {f : Str} {d : D} : ∀ {l : List (Str × D)}, (l.all fun p => clo p.2) = true → l.lookup f = some d → clo d = true
  | [], _, e => by cases e
  | (g, y) :: l, c, e => by
    rw [List.all_cons, Bool.and_eq_true] at c
    simp only [List.lookup] at e
    split at e
    · cases e; exact c.1
    · exact clos_lookup c.2 e
/-- a call that neither sees nor leaves a cell -/
theorem Run.pure {cap : Bool} {r : RV} {Q : VK} {E : L2.XK} (s : VS K H b G h) (run : Run K ca cap H b G (pureR h r) Q E) : Run K ca true H [] (wof b G) r Q E := by
  cases r with
  | bad => exact run
  | exn x h1 =>
    have run : Run K ca cap H b G (if x.fs.all fun p => clo p.2 then .exn x h else .bad) Q E := run
    split at run
    · rename_i hc
      intro dd H' b' e v xa
      have x0 : Ext H b G H' b G := ⟨fun a o q n => ⟨(e.keep a o q (fun m => nomatch m)).1, n⟩, fun _ _ z => z, fun _ z => .inl z, e.there⟩
      refine run dd H' b x0 (s.ext x0 fun a m => ?_) ?_
      · obtain ⟨o, q⟩ := Option.ne_none_iff_exists'.mp (s.liveB a m)
        rw [q]; exact (e.keep a o q (fun m => nomatch m)).1
      · obtain ⟨fs, q1, q2, q3⟩ := xa
        refine ⟨fs, q1, fun z => q2 (.inr z), fun f d l => ?_⟩
        obtain ⟨v', l1, l2⟩ := q3 f d l
        exact ⟨v', l1, l2.clo (fun a _ z => .inr z) (clos_lookup hc l)⟩
    · exact False.elim run
  | ok p =>
    obtain ⟨d, own, h1⟩ := p
    have run : Run K ca cap H b G (if clo d then .ok (d, own, h) else .bad) Q E := run
    split at run
    · rename_i hc
      intro v H' b' G' e s' rs
      have same : ∀ a ∈ b, H' a = H a := fun a m => by
        obtain ⟨o, q⟩ := Option.ne_none_iff_exists'.mp (s.liveB a m)
        rw [q]; exact (e.keep a o q (fun m => nomatch m)).1
      have x0 : Ext H b G H' b G := ⟨fun a o q n => ⟨(e.keep a o q (fun m => nomatch m)).1, n⟩, fun _ _ z => z, fun _ z => .inl z, e.there⟩
      have s0 := s.ext x0 same
      unfold Res at rs
      split at rs
      · rename_i ho
        obtain ⟨p, e1, e2, e3, t⟩ := rs
        have pn : H p = none := by
          have gp : G' p := by rw [e3]; exact .inr rfl
          exact (e.new p gp).elim (fun z => absurd z e2) fun z => z
        have xp : Ext H b G H' b (plus G p) := ⟨x0.keep, x0.pre, fun a z => z.elim .inl fun z => .inr (z ▸ pn), x0.there⟩
        have np : p ∉ b := fun m => e2 (.inl m)
        have sp : VS K H' b (plus G p) h := by
          refine ⟨s.nd, fun a m z => z.elim (s.dis a m) fun z => np (z ▸ m), ⟨s.hp.len, fun n c a q1 q2 => (s.hp.at_ n c a q1 q2).kept xp.kept (same a (List.mem_of_getElem? q2))⟩, fun a z => z.elim (fun z => s0.live a z) fun z => ?_⟩
          rw [z]; exact t.some
        have hW : ∀ a, H' a ≠ none → wof b (plus G p) a → wof b' (plus (wof b G) p) a := fun a _ z => .inr (z.elim (fun z => .inl (.inl z)) fun z => z.elim (fun z => .inl (.inr z)) .inr)
        refine run v H' b (plus G p) xp sp ?_
        unfold Res
        rw [if_pos ho]
        refine ⟨p, e1, fun z => e2 (.inr z), rfl, ?_⟩
        cases t with
        | lst q r => exact .lst q (r.clo hW (by simpa [Rw.clo] using hc))
        | dct q r =>
          rw [Rw.clo, Bool.and_eq_true] at hc
          have c2 := hc
          exact .dct q (r.clo hW c2.2)
      · rename_i ho
        obtain ⟨e1, r⟩ := rs
        rw [if_pos rfl] at r
        have ho : own = false := by simpa using ho
        subst ho
        exact run v H' b G x0 s0 (Res.plain (r.clo (fun a _ z => .inr z) hc))
    · exact False.elim run
end

/-! ### the table -/
structure Tb where
  T : Pk
  fi : Nat → Option (Str × List Str)
  ci : Nat → Option Str
  gl : Nat → Option Str
  fl : List Str
  kw : Nat → List (Nat × List Str × List Nat)
def Tb.ck (L : Tb) (N : List Str) (sc : Scope) : Ck := ⟨N, sc, fun _ => true, true, L.gl, L.fi, L.ci, L.fl, L.kw, none⟩
/-- an error class of the table -/
structure ErrOk (K : PySem.W.Frag) (P : Program) (w : World) (mg : Str → Option Value) (base : Heap) (T : Pk) (c : Nat) (C : Addr) (y : Str) : Prop where
  ex : ∃ (f : Str) (fI : Addr) (fd : FuncData) (ps : List Str), T.fld c = some f ∧ OexC K C ∧ PySem.W.findIn K (.ref C) "__init__" = some (some (.ref fI)) ∧ PySem.W.typeIn K (.ref fI) = some (.type "function") ∧
    FnOk P w K mg base (L2.CX P w) 1 fI fd ps (spI K f) ∧ Binds K fd ps [] ∧ PySem.W.findIn K (.ref C) f = some none
  nm : mg y = some (.ref C)
/-- what the module's names stand for -/
structure WrOk (L : Tb) (K : PySem.W.Frag) (P : Program) (w : World) (mg : Str → Option Value) (base : Heap) (ca : Nat → Addr) : Prop where
  blt : ∀ x, bltNames.contains x = true → mg x = none
  gls : ∀ i x, L.gl i = some x → ∃ u v, mg x = some u ∧ RelV v u ∧ ∀ d, L.T.gl i = some d → ∀ {H : HpC} {W : Addr → Prop} {b : List Addr}, Rep ⟨K, P, w⟩ H W b v d
  err : ∀ c y, L.ci c = some y → ErrOk K P w mg base L.T c (ca c) y
  sub : ∀ k c, PySem.W.exmOne K (.ref (ca k)) (.ref (ca c)) = some (L.T.sub k c)
  xf : ∀ c, XfC K (ca c)
  xn : ∀ c f, L.fl.contains f = true → PySem.W.findIn K (.ref (ca c)) f = some none
/-- a def of the table: its text, checked -/
structure DefOk1 (L : Tb) (K : PySem.W.Frag) (mg : Str → Option Value) (i : Nat) (x : Str) (ps : List Str) (fa : Addr) (fd : FuncData) : Prop where
  ex : ∃ (F : Fn) (N : List Str) (qual : Str) (params : Arguments) (body : List Stmt) (scope : Scope), L.T.tbl i = some F ∧ FunD K x qual params body scope [] [] fa fd ∧ FnScope N ps scope ∧
    chkSs (L.ck N scope) F.body body = true ∧ F.slots = N.length ∧ F.params = ps.length
  mg : mg x = some (.ref fa)
  pos : posBinds K fd ps
  kw : ∀ (n : Nat) (ks : List Str) (perm : List Nat), (n, ks, perm) ∈ L.kw i → KBinds K fd ps ks (fun us ws => if us.length = n then permV perm (us ++ ws) else []) (fun vs zs => if vs.length = n then permV perm (vs ++ zs) else [])
def DefOk (L : Tb) (K : PySem.W.Frag) (mg : Str → Option Value) (i : Nat) (x : Str) (ps : List Str) : Prop := ∃ (fa : Addr) (fd : FuncData), DefOk1 L K mg i x ps fa fd
/-- it keeps its promise, n calls deep -/
def DefAt (L : Tb) (K : PySem.W.Frag) (P : Program) (w : World) (mg : Str → Option Value) (base : Heap) (ca : Nat → Addr) (n i : Nat) (x : Str) (ps : List Str) : Prop :=
  ∃ (fa : Addr) (fd : FuncData), mg x = some (.ref fa) ∧ PySem.W.keepIn K (.ref fa) = true ∧ FnK P w K mg base (L2.CX P w) (n + 2) fa fd ps (spOf ⟨K, P, w⟩ ca (callN L.T n) i ps.length) ∧ posBinds K fd ps ∧
    ∀ (n : Nat) (ks : List Str) (perm : List Nat), (n, ks, perm) ∈ L.kw i → KBinds K fd ps ks (fun us ws => if us.length = n then permV perm (us ++ ws) else []) (fun vs zs => if vs.length = n then permV perm (vs ++ zs) else [])
section
variable {L : Tb} {K : PySem.W.Frag} {P : Program} {w : World} {mg : Str → Option Value} {base : Heap} {ca : Nat → Addr}
def bodyY (L : Tb) (K : PySem.W.Frag) (P : Program) (w : World) (ca : Nat → Addr) (n : Nat) (E : L2.XK) : Sx := ⟨⟨K, P, w⟩, ca, L.T.pg (callN L.T n), none, 0, none, fun cls d _ H => E cls d H⟩
theorem body_gs {n : Nat} (R : WrOk L K P w mg base ca) (D : ∀ i x ps, L.fi i = some (x, ps) → DefAt L K P w mg base ca n i x ps) {N ps : List Str} {qual : Str} {scope : Scope} {f : Addr} {cd : Value} {A : Around} {outer : List PySem.Env} {s : Shared} {H : HpC} {E : L2.XK}
    (S : FnScope N ps scope) (hr : RoomK (n + 2) (A.deeper (envOfC qual scope s.heap.objs.size f cd))) : GS (cxOf (L2.CX P w) P w K mg base N qual scope f cd A outer s H E) (bodyY L K P w ca n E) (L.ck N scope) where
  hK := rfl
  hN := rfl
  nd := S.nd
  sc := rfl
  kd := S.kind
  fn := fun _ _ => rfl
  cm := fun _ => rfl
  un := by
    have := hr.r.un
    show (A.deeper (envOfC qual scope s.heap.objs.size f cd)).units + 80 < cLine
    omega
  gd := hr.g
  tk := takes_cx
  blt := R.blt
  gls := R.gls
  fns := fun _ i x ps e => by
    obtain ⟨fa, fd, h1, h2, h3, h4, h5⟩ := D i x ps e
    exact ⟨n + 2, fa, fd, h1, h2, hr, h3, h4, h5⟩
  su := fun i h => by cases h
  po := fun _ => passes_cx
  sk := fun _ => rfl
  fr := fun _ => rfl
  rz := fun _ c y e => by
    obtain ⟨f, fI, fd, ps, h1, h2, h3, h4, h5, h6, h7⟩ := (R.err c y e).ex
    exact ⟨f, fI, fd, ps, 1, h1, h2, h3, h4, h5, hr.r.mono (by omega), h6, h7⟩
  nm := fun c y e => (R.err c y e).nm
  sub := R.sub
  xf := R.xf
  xn := R.xn
  ex := fun _ => rfl
theorem def_step {n i : Nat} {x : Str} {ps : List Str} {fa : Addr} {fd : FuncData} (R : WrOk L K P w mg base ca) (IH : ∀ i x ps, L.fi i = some (x, ps) → DefAt L K P w mg base ca n i x ps) (D : DefOk1 L K mg i x ps fa fd) :
    FnK P w K mg base (L2.CX P w) (n + 3) fa fd ps (spOf ⟨K, P, w⟩ ca (callN L.T (n + 1)) i ps.length) := by
  obtain ⟨F, N, qual, params, body, scope, h1, h3, h4, h5, h6, h7⟩ := D.ex
  obtain ⟨oc, od, dV, kV, doc, pm, an, cdv, ct, osl, rfl, lk, hcd, _, _⟩ := h3.ex
  refine fnk_of (k := n + 2) lk hcd h4 (fun vs H Q E z => z.1) fun A outer s H vs Q E hr sp => ?_
  refine ⟨semSs (bodyY L K P w ca n E) F.body, ss_ok _ _ _ _ (body_gs R IH h4 hr) _ h5, ?_⟩
  obtain ⟨hv, ds, h, b, G, cap, vs0, rs, run⟩ := sp
  have hpn : F.params ≤ N.length := by
    rw [h7, ← h4.pre, List.length_take]; omega
  have run : Run ⟨K, P, w⟩ ca cap H b G (match L.T.tbl i with
    | some F => if F.pure && clos ds then orR (pureR h (runFn (L.T.pg (callN L.T n)) F ds [])) (runFn (L.T.pg (callN L.T n)) F ds h) else runFn (L.T.pg (callN L.T n)) F ds h
    | none => .bad) Q E := run
  rw [h1] at run
  have run : Run ⟨K, P, w⟩ ca cap H b G (if F.pure && clos ds then orR (pureR h (runFn (L.T.pg (callN L.T n)) F ds [])) (runFn (L.T.pg (callN L.T n)) F ds h) else runFn (L.T.pg (callN L.T n)) F ds h) Q E := run
  split at run
  · rename_i hc
    rw [Bool.and_eq_true] at hc
    by_cases hb : pureR h (runFn (L.T.pg (callN L.T n)) F ds []) = .bad
    · rw [hb] at run
      exact body_start (Y := bodyY L K P w ca n E) rfl rfl rfl h6 hpn vs0 rs run
    · have e : orR (pureR h (runFn (L.T.pg (callN L.T n)) F ds [])) (runFn (L.T.pg (callN L.T n)) F ds h) = pureR h (runFn (L.T.pg (callN L.T n)) F ds []) := by
        unfold orR
        split
        · rename_i q; exact absurd q hb
        · rfl
      rw [e] at run
      exact body_start (Y := bodyY L K P w ca n E) (cap := true) rfl rfl rfl h6 hpn vs0.nil (rs.clo (fun a _ z => z.elim (fun z => nomatch z) fun z => z) hc.2) (Run.pure vs0 run)
  · exact body_start (Y := bodyY L K P w ca n E) rfl rfl rfl h6 hpn vs0 rs run
theorem def_at (R : WrOk L K P w mg base ca) (D : ∀ i x ps, L.fi i = some (x, ps) → DefOk L K mg i x ps) : ∀ n i x ps, L.fi i = some (x, ps) → DefAt L K P w mg base ca n i x ps
  | 0, i, x, ps, e => by
    obtain ⟨fa, fd, q⟩ := D i x ps e
    obtain ⟨F, N, qual, params, body, scope, h1, h3, h4, h5, h6, h7⟩ := q.ex
    exact ⟨fa, fd, q.mg, h3.kp, ⟨fun vs H Q W' z => z.1, fun A outer s H args us vs Q W' _ _ _ _ z => False.elim (by obtain ⟨_, ds, h, b, G, cap, _, _, run⟩ := z; exact run)⟩, q.pos, q.kw⟩
  | n + 1, i, x, ps, e => by
    obtain ⟨fa, fd, q⟩ := D i x ps e
    obtain ⟨F, N, qual, params, body, scope, h1, h3, h4, h5, h6, h7⟩ := q.ex
    exact ⟨fa, fd, q.mg, h3.kp, def_step R (def_at R D n) q, q.pos, q.kw⟩
end
end Rw

set_option maxHeartbeats 8000000
/-! L6e: from the table to the law's row. -/
namespace Rw
open PySem PySem.Spec PyProof.Rows L2

/-- the script's object -/
abbrev scrO (us : List Value) : Obj := { cls := .type "list", data := .seq us.toArray }
/-- what the law's call must show -/
abbrev Told (s : Shared) (r : Result) (s' : Shared) : Prop := r = .ok (.ret (.bool true)) ∧ OldK s.heap s'.heap ∧ s'.os = s.os ∧ AllBare s'.gens
section
variable {P : Program} {w : World} {K : PySem.W.Frag} {mg mb : Str → Option Value} {k : Nat} {fa a : Addr} {fd : FuncData} {x : Str} {sp : L2.Sp} {s : Shared} {us : List Value} {H : HpC}
/-- only the script may be tracked -/
structure Scr (K : PySem.W.Frag) (P : Program) (w : World) (s : Shared) (a : Addr) (H : HpC) : Prop where
  only : Only H
  ok : HOk P w H s.heap
  at_ : ∀ b, H b ≠ none → b = a
  k : H a ≠ none → K.lookup a = none
theorem Scr.un (S : Scr K P w s a H) (ea : s.heap.get? a = some (scrO us)) {b : Addr} {o : Obj} (e : s.heap.get? b = some o) (d : ∀ xs n, o.data ≠ .seq xs n) : H b = none := by
  by_cases n : H b = none
  · exact n
  · have eb := S.at_ b n
    rw [eb, ea] at e
    cases e
    exact absurd rfl (d us.toArray _)
theorem law_at (KX : K.In s.heap) (nM : s.heap.Ns mainGlobals mg) (nB : s.heap.Ns builtinsNs mb) (bB : ∀ y : Str, y ≠ "__name__" → mb y = bootBuiltins y) (nl : s.heap.NoLimit) (gn : s.gens = #[]) (ea : s.heap.get? a = some (scrO us)) (S : Scr K P w s a H)
    (rm : RoomK k callerA) (F : ∀ base : Heap, K.In base → base.Ns mainGlobals mg → FnK P w K mg base (L2.CX P w) k fa fd [x] sp) (bn : BindsTo s fd ⟨[.ref a], []⟩ [(x, .ref a)]) (q : sp [.ref a] H (fun v _ => v = .bl true) fun _ _ _ => False) :
    codeAny (model P w) callerA (.call (.ref fa) ⟨[.ref a], []⟩) (Told s) s := by
  have hid : ∀ {b : Addr} {o : Obj}, s.heap.get? b = some o → H b = none → (hidT s.heap H).get? b = some o := fun e n => hidT_get e n
  have ns : ∀ {b : Addr} {m : Str → Option Value}, s.heap.Ns b m → (hidT s.heap H).Ns b m := fun ⟨o, es, ep, e, d, r⟩ => ⟨o, es, ep, hid e (S.un ea e fun xs n z => by rw [d] at z; cases z), d, r⟩
  have kin : K.In (hidT s.heap H) := fun b o e => hid (KX b o e) (by
    by_cases n : H b = none
    · exact n
    · have eb := S.at_ b n
      subst eb
      rw [S.k n] at e; cases e)
  have M : Mod K mg (hidT s.heap H) := ⟨kin, ns nM, ⟨mb, ns nB, bB⟩, nl.elim fun mc z => ⟨mc, ns z.1, z.2⟩⟩
  have e0 : Env0 P w K mg (hidT s.heap H) callerA [] s H := { frames := rfl, mod := M, bs := fun b o e => of_hidT e, bsz := Nat.le_of_eq (hidT_size _ _), funs := trivial, frf := fun b hb => absurd (show b ∈ ([] : List Addr) from hb) (by simp), hok := S.ok, bare := .of_eq gn }
  refine codeAny_mono ((F _ kin (ns nM)).run callerA [] s H ⟨[.ref a], []⟩ [.ref a] [.ref a] _ _ rm e0 bn (.cons rfl .nil) q) fun r s' z => ?_
  rcases r with er | fl
  · obtain ⟨_, _, _, _, _, _, _, _, _, _, _, _, q⟩ := (show L2.CX P w [] H s (fun _ _ _ => False) er s' from z)
    exact q.elim
  · cases fl with
    | ret u =>
      obtain ⟨v, H', e1, e2, e3, e4, e5, e6⟩ := z
      have e6 : v = .bl true := e6
      rw [e6] at e5
      have e5 : u = Value.bool true := e5
      rw [e5]
      refine ⟨rfl, OldK.of_keep fun b o eo => ?_, e1, e2⟩
      rcases S.only b with n | ⟨ob, xs, n⟩
      · exact e3.keep b o eo n (fun z => absurd (show b ∈ ([] : List Addr) from z) (by simp)) (by simp)
      · obtain ⟨g1, _⟩ := S.ok b _ n
        obtain ⟨g2, _⟩ := e4 b _ (e3.frzs b ob _ n)
        rw [eo] at g1
        cases g1
        exact g2
    | next => exact False.elim z
    | brk => exact False.elim z
    | cont => exact False.elim z
/-- the script as data -/
theorem scr_rep {ns : List Int} (vs : List V) (e : vs = ns.map V.int) (hS : SqL K H a vs) : VS ⟨K, P, w⟩ H [] (fun _ => False) [] ∧ Reps ⟨K, P, w⟩ H (wof [] fun _ => False) [] [.ref a] [.lst (ns.map D.int)] := by
  subst e
  have rr : ∀ l : List Int, Reps ⟨K, P, w⟩ H (wof [] fun _ => False) [] (l.map V.int) (l.map D.int) := fun l => by
    induction l with
    | nil => exact .nil
    | cons i l ih => exact .cons (.int i) ih
  refine ⟨⟨List.nodup_nil, (fun _ m => nomatch m), ⟨rfl, fun n c a e => by simp at e⟩, fun _ z => z.elim⟩, .cons (.lst (hS.elim (fun z => .inl ⟨z, fun z => z.elim (fun z => nomatch z) fun z => z⟩) .inr) (rr ns)) .nil⟩
end
/-- THE END: the interpreter's answer is the law's -/
theorem law_walk {l : PySem.W.OpenLaw} {n k : Nat} {q : Program} {loose : List Str} {XP : (Str → Option Value) → Heap → Prop} {YP : World → Heap → Prop} {d : DefRec} {L : Tb} {iL : Nat} {x : Str} (hn : l.most = some n) (hn2 : n ≤ sizeLine) (hdf : d.params.defaults = []) (hr : Room (k + 3) callerA) (hi : L.fi iL = some (d.name, [x]))
    (F : ∀ (w : World) (mg : Str → Option Value) (h : Heap), YP w h → h.Ns mainGlobals mg → ∃ (K : PySem.W.Frag) (ca : Nat → Addr), K.In h ∧ (∀ base : Heap, K.In base → base.Ns mainGlobals mg → WrOk L K l.prog w mg base ca) ∧ ∀ i y ps, L.fi i = some (y, ps) → DefOk L K mg i y ps)
    (hlaw : ∀ ns : List Int, ns.length ≤ n → (∀ z ∈ ns, Builtin.Int.intBits z ≤ 1048576) → ∃ h, callN L.T (k + 1) iL [.lst (ns.map D.int)] [] = .ok (.bl true, false, h)) :
    PySem.W.WalkO q loose XP YP l.row.toRowW d [] (fun f vs => PySem.call f vs) := by
  refine Att.attach_callB hn hdf fun w s₀ s₁ mg mb fa o pm cd doc a us ns G Y ho hd hcd hmg hobj hints hlen hbits hg => ?_
  obtain ⟨K, ca, KX, R, D⟩ := F w mg _ Y G.T.g
  obtain ⟨fa', fd, q⟩ := D iL _ _ hi
  have ef := q.mg.symm.trans hmg
  cases ef
  have FK : ∀ base : Heap, K.In base → base.Ns mainGlobals mg → FnK l.prog w K mg base (L2.CX l.prog w) (k + 3) fa fd [x] (spOf ⟨K, l.prog, w⟩ ca (callN L.T (k + 1)) iL 1) := fun base kb nb => def_step (R base kb nb) (def_at (R base kb nb) D k) q
  have bn : BindsTo s₁ fd ⟨[.ref a], []⟩ [(x, .ref a)] := q.pos.to s₁ [.ref a] [] KX rfl
  have lenV := hints.length
  have rv : Vals (ns.map V.int) us := vals_ints hints
  have hz : ns.length ≤ sizeLine := Nat.le_trans hlen hn2
  have sp : ∀ H : HpC, SqL K H a (ns.map V.int) → spOf ⟨K, l.prog, w⟩ ca (callN L.T (k + 1)) iL 1 [.ref a] H (fun v _ => v = .bl true) fun _ _ _ => False := fun H hS => by
    obtain ⟨r1, r2⟩ := scr_rep (P := l.prog) (w := w) _ rfl hS
    refine ⟨rfl, _, [], [], fun _ => False, true, r1, r2, ?_⟩
    obtain ⟨h, eh⟩ := hlaw ns hlen hbits
    rw [eh]
    intro v H' b' G' _ _ rs
    have rs : G' = (fun _ => False) ∧ Rep ⟨K, l.prog, w⟩ H' (wof b' fun _ => False) b' v (.bl true) := by
      simpa [Res] using rs
    cases rs.2
    rfl
  have go : ∀ H : HpC, Scr K l.prog w s₁ a H → SqL K H a (ns.map V.int) → codeAny (model l.prog w) callerA (.call (.ref fa) ⟨[.ref a], []⟩) (Told s₁) s₁ := fun H S hS => law_at KX G.T.g G.T.b G.T.builtins G.T.nolimit hg hobj S ⟨hr, rfl⟩ FK bn (sp H hS)
  by_cases hk : K.lookup a = none
  · have at_ : ∀ b, (fun b => if b = a then some (HO.frz (scrO us) (.lst (ns.map V.int))) else none : HpC) b ≠ none → b = a := fun b z => by
      by_cases y : b = a
      · exact y
      · exact absurd (if_neg y) z
    refine go (fun b => if b = a then some (.frz (scrO us) (.lst (ns.map V.int))) else none) ⟨fun b => ?_, fun b u z => ?_, at_, fun _ => hk⟩ (.inl (.inr ⟨scrO us, if_pos rfl⟩))
    · by_cases y : b = a
      · exact .inr ⟨_, _, if_pos y⟩
      · exact .inl (if_neg y)
    · by_cases y : b = a
      · have z := (if_pos y).symm.trans z
        cases z
        rw [y]
        exact ⟨hobj, by rw [List.length_map]; exact hz, us, _, rv, hobj⟩
      · have z := (if_neg y).symm.trans z
        cases z
  · obtain ⟨o1, e1⟩ := Option.ne_none_iff_exists'.mp hk
    have e2 := KX a o1 e1
    rw [hobj] at e2
    cases e2
    exact go (fun _ => none) ⟨fun _ => .inl rfl, (fun _ _ z => nomatch z), fun _ z => absurd rfl z, fun z => absurd rfl z⟩ (.inr ⟨_, us.toArray, _, e1, rfl, rfl, rfl, by rw [List.size_toArray, lenV]; exact hz, by simpa using rv⟩)
end Rw

set_option maxHeartbeats 8000000
/-! L6f: what the head's run tells; the table from it. -/
namespace Rw
open PySem PySem.Spec PyProof.Rows L2

/-! ### parameters by place -/
theorem zip_lookup {α : Type} : ∀ {ps : List Str} {us : List α}, us.length = ps.length → ∀ n ∈ ps, ((ps.zip us).lookup n).isSome = true
  | [], _, _, n, h => by cases h
  | p :: ps, [], e, _, _ => by cases e
  | p :: ps, u :: us, e, n, h => by
    simp only [List.zip_cons_cons, List.lookup]
    cases q : (n == p) with
    | true => rfl
    | false =>
      rcases List.mem_cons.mp h with h | h
      · rw [h] at q; simp at q
      · exact zip_lookup (by simpa using e) n h
theorem zip_fm {α : Type} : ∀ {ps : List Str} {us : List α}, us.length = ps.length → ps.Nodup → ps.filterMap (fun n => ((ps.zip us).lookup n).map (n, ·)) = ps.zip us
  | [], _, _, _ => by simp
  | p :: ps, [], e, _ => by cases e
  | p :: ps, u :: us, e, nd => by
    have nd' := List.nodup_cons.mp nd
    rw [List.zip_cons_cons, List.filterMap_cons]
    have h0 : (((p, u) :: ps.zip us).lookup p) = some u := by simp [List.lookup]
    rw [h0]
    simp only [Option.map_some]
    congr 1
    have cg : ∀ l : List Str, (∀ n ∈ l, n ≠ p) → l.filterMap (fun n => (((p, u) :: ps.zip us).lookup n).map (n, ·)) = l.filterMap fun n => ((ps.zip us).lookup n).map (n, ·) := fun l => by
      induction l with
      | nil => intro _; rfl
      | cons n l ih =>
        intro h
        have q : (n == p) = false := by simpa using h n (List.mem_cons_self ..)
        rw [List.filterMap_cons, List.filterMap_cons, ih fun m hm => h m (List.mem_cons_of_mem _ hm)]
        simp only [List.lookup, q]
    rw [cg ps fun n hn z => nd'.1 (z ▸ hn)]
    exact zip_fm (by simpa using e) nd'.2
theorem bind_pos {x qual : Str} {params : Arguments} {body : List Stmt} {scope : Scope} {ps : List Str} {kV doc pm cdv ct : Value} {an : Option Addr} {us : List Value}
    (h1 : params.posonlyargs = []) (h2 : params.kwonlyargs = []) (h3 : params.vararg = none) (h4 : params.kwarg = none) (h5 : params.args.map (·.arg) = ps) (nd : ps.Nodup) (hl : us.length = ps.length) :
    bindArgs (PySem.W.fnOf x qual params body scope .none kV doc pm an cdv ct) ⟨us, []⟩ = pure (ps.zip us) := by
  obtain ⟨a1, a2, a3, a4, a5, a6, a7⟩ := params
  simp only at h1 h2 h3 h4 h5
  subst h1 h2 h3 h4 h5
  have e0 : seqItems? Value.none = pure none := rfl
  unfold bindArgs PySem.W.fnOf
  simp only [List.map_nil, List.nil_append, List.append_nil, List.forIn_nil, List.forIn_cons, pure_bind, e0, Option.getD_none, List.length_map]
  have hl' : us.length = a2.length := by simpa using hl
  have z : (a2.map (·.arg)).filter (fun n => (((a2.map (·.arg)).zip us).lookup n).isNone) = [] := by
    rw [List.filter_eq_nil_iff]
    intro n hn
    have := zip_lookup hl n hn
    simpa using this
  have t : (a2.map (·.arg)).take a2.length = a2.map (·.arg) := List.take_of_length_le (by simp)
  have d : (a2.map (·.arg)).drop a2.length = [] := List.drop_eq_nil_of_le (by simp)
  simp [hl', z, t, d]
  rw [← List.filterMap_map, zip_fm hl nd]
theorem posB {K : PySem.W.Frag} {x qual : Str} {params : Arguments} {body : List Stmt} {scope : Scope} {ps : List Str} {fa : Addr} {fd : FuncData} (F : FunD K x qual params body scope [] [] fa fd)
    (h1 : params.posonlyargs = []) (h2 : params.kwonlyargs = []) (h3 : params.vararg = none) (h4 : params.kwarg = none) (h5 : params.args.map (·.arg) = ps) (nd : ps.Nodup) : posBinds K fd ps := by
  obtain ⟨oc, od, dV, kV, doc, pm, an, cdv, ct, osl, rfl, lk, hcd, hD, hK⟩ := F.ex
  rcases hD with ⟨_, rfl⟩ | ⟨e, _⟩
  · exact ⟨fun s us ws X hl => .of_eq (bind_pos h1 h2 h3 h4 h5 nd hl), fun r _ => r⟩
  · exact absurd rfl e
theorem permV_vals {vs : List V} {us : List Value} (r : Vals vs us) : ∀ perm : List Nat, Vals (permV perm vs) (permV perm us)
  | [] => .nil
  | i :: perm => by
    have ih := permV_vals r perm
    unfold permV at ih ⊢
    rw [List.filterMap_cons, List.filterMap_cons]
    have at_ : ∀ {vs : List V} {us : List Value}, Vals vs us → ∀ i : Nat, (∃ v u, vs[i]? = some v ∧ us[i]? = some u ∧ RelV v u) ∨ (vs[i]? = none ∧ us[i]? = none) := fun r => by
      induction r with
      | nil => intro i; exact .inr ⟨by simp, by simp⟩
      | cons h t ih =>
        intro i
        cases i with
        | zero => exact .inl ⟨_, _, rfl, rfl, h⟩
        | succ i => simpa using ih i
    rcases at_ r i with ⟨v, u, e1, e2, rv⟩ | ⟨e1, e2⟩
    · rw [e1, e2]; exact .cons rv ih
    · rw [e1, e2]; exact ih
/-- a call with keywords: n values by place, keywords ks -/
abbrev kwG {α : Type} (n : Nat) (perm : List Nat) : List α → List α → List α := fun us ws => if us.length = n then permV perm (us ++ ws) else []
theorem kwB {K : PySem.W.Frag} {x qual : Str} {params : Arguments} {body : List Stmt} {scope : Scope} {ps ks : List Str} {n : Nat} {perm : List Nat} {fa : Addr} {fd : FuncData} (F : FunD K x qual params body scope [] [] fa fd)
    (h : ∀ (kV doc pm : Value) (an : Option Addr) (cdv ct : Value) (us ws : List Value), (kwG n perm us ws).length = ps.length → bindArgs (PySem.W.fnOf x qual params body scope .none kV doc pm an cdv ct) ⟨us, ks.zip ws⟩ = pure (ps.zip (kwG n perm us ws))) :
    KBinds K fd ps ks (fun us ws => if us.length = n then permV perm (us ++ ws) else []) (fun vs zs => if vs.length = n then permV perm (vs ++ zs) else []) := by
  obtain ⟨oc, od, dV, kV, doc, pm, an, cdv, ct, osl, rfl, lk, hcd, hD, hK⟩ := F.ex
  rcases hD with ⟨_, rfl⟩ | ⟨e, _⟩
  · refine ⟨fun s us ws X hl => .of_eq (h _ _ _ _ _ _ us ws hl), fun {vs us zs ws} r z => ?_⟩
    simp only [r.length]
    split
    · exact permV_vals (r.append z) perm
    · exact .nil
  · exact absurd rfl e

/-! ### constants -/
mutual
def conB (K : PySem.W.Frag) : D → Value → Bool
  | .non, u => (match u with | .none => true | _ => false)
  | .bl b, u => (match u with | .bool c => b == c | _ => false)
  | .int i, u => (match u with | .int j _ => decide (i = j) | _ => false)
  | .str x, u => (match u with | .str y _ => decide (x = y) | _ => false)
  | .tup ds, u => (match u with
    | .ref a => (match K.lookup a with
      | some ⟨.type c, none, .seq its _, _⟩ => decide (c = "tuple") && (decide (its.size ≤ sizeLine) && conBs K ds its.toList)
      | _ => false)
    | _ => false)
  | _, _ => false
def conBs (K : PySem.W.Frag) : List D → List Value → Bool
  | [], us => us.isEmpty
  | d :: ds, us => (match us with
    | u :: us => conB K d u && conBs K ds us
    | [] => false)
end
section
variable {K : Kx}
mutual
theorem conB_ok : ∀ {d : D} {u : Value}, conB K.f d u = true → ∃ v, RelV v u ∧ ∀ {H : HpC} {W : Addr → Prop} {b : List Addr}, Rep K H W b v d
  | .non, u, h => by
    unfold conB at h
    split at h
    · exact ⟨.non, rfl, .non⟩
    · cases h
  | .bl b, u, h => by
    unfold conB at h
    split at h
    · rename_i c
      have e := eq_of_beq h
      subst e
      exact ⟨.bl b, rfl, .bl b⟩
    · cases h
  | .int i, u, h => by
    unfold conB at h
    split at h
    · rename_i j t
      have e : i = j := of_decide_eq_true h
      subst e
      exact ⟨.int i, ⟨t, rfl⟩, .int i⟩
    · cases h
  | .str x, u, h => by
    unfold conB at h
    split at h
    · rename_i y t
      have e : x = y := of_decide_eq_true h
      subst e
      exact ⟨.str x, ⟨t, rfl⟩, .str x⟩
    · cases h
  | .tup ds, u, h => by
    unfold conB at h
    split at h
    · rename_i a
      split at h
      · rename_i c its n sl e
        rw [Bool.and_eq_true, Bool.and_eq_true] at h
        obtain ⟨vs, rv, rp⟩ := conBs_ok h.2.2
        have ec : c = "tuple" := of_decide_eq_true h.1
        subst ec
        exact ⟨.ref a, rfl, .tup (.inr ⟨_, its, n, e, rfl, rfl, rfl, of_decide_eq_true h.2.1, rv⟩) rp⟩
      · cases h
    · cases h
  | .lst _, _, h => by simp [conB] at h
  | .dct _ _, _, h => by simp [conB] at h
  | .set _, _, h => by simp [conB] at h
  | .ref _, _, h => by simp [conB] at h
theorem conBs_ok : ∀ {ds : List D} {us : List Value}, conBs K.f ds us = true → ∃ vs, Vals vs us ∧ ∀ {H : HpC} {W : Addr → Prop} {b : List Addr}, Reps K H W b vs ds
  | [], us, h => by
    unfold conBs at h
    cases us with
    | nil => exact ⟨[], .nil, .nil⟩
    | cons _ _ => cases h
  | d :: ds, us, h => by
    unfold conBs at h
    cases us with
    | nil => cases h
    | cons u us =>
      have h : (conB K.f d u && conBs K.f ds us) = true := h
      rw [Bool.and_eq_true] at h
      obtain ⟨v, r1, r2⟩ := conB_ok h.1
      obtain ⟨vs, q1, q2⟩ := conBs_ok h.2
      exact ⟨v :: vs, .cons r1 q1, .cons r2 q2⟩
end
end

/-! ### error classes -/
def oexB (K : PySem.W.Frag) (C : Addr) : Bool := (match K.lookup C with
  | some ⟨.type "type", _, .cls cd, sl⟩ => (match cd.mro, sl.toList with
    | .ref C' :: bm, [_, _, _, _, some (.builtin n), _] => C' == C && (n == "ValueError.__new__" && (!cd.hasDel && (cd.hasDict && PySem.HandSPX.refsVE bm)))
    | _, _ => false)
  | _ => false) && (He.eqO (PySem.W.findIn K (.ref C) "__setattr__") (some (some (.builtin "object.__setattr__"))) && (decide (PySem.W.subIn K (.ref C) (.type "BaseException") = some true) &&
    (decide (PySem.W.typeIn K (.ref C) = some (.type "type")) && PySem.W.keepIn K (.ref C))))
theorem oexB_ok {K : PySem.W.Frag} {C : Addr} (h : oexB K C = true) : OexC K C := by
  unfold oexB at h
  simp only [Bool.and_eq_true] at h
  obtain ⟨h0, h1, h2, h3, h4⟩ := h
  refine ⟨?_, He.eqO_ok h1, of_decide_eq_true h2, of_decide_eq_true h3, h4⟩
  split at h0
  · rename_i dd cd sl e
    split at h0
    · rename_i C' bm k0 k1 k2 k3 n k5 hm hs
      simp only [Bool.and_eq_true, beq_iff_eq, Bool.not_eq_true'] at h0
      obtain ⟨q1, q2, q3, q4, q5⟩ := h0
      subst q1 q2
      obtain ⟨nm, bs, mro, ns, qn, hd, sn, sub, ab, col, del⟩ := cd
      dsimp only at hm q3 q4
      subst hm q3 q4
      have es : sl = #[k0, k1, k2, k3, some (.builtin "ValueError.__new__"), k5] := by
        obtain ⟨l⟩ := sl
        simp only at hs
        rw [hs]
      subst es
      exact ⟨nm, qn, ns, bs, bm, sn, sub, ab, col, dd, k0, k1, k2, k3, k5, e, q5⟩
    · cases h0
  · cases h0
def relB' (K : PySem.W.Frag) (B : Addr) : Bool := He.eqO (PySem.W.specialIn K (.ref B) "__getattribute__") (some (some (.builtin "type.__getattribute__"))) && (PySem.W.readsIn K B (.type "type") && (match PySem.W.findCls K (.ref B) (.type "type") "__init__" with
  | some (.val (.builtin n)) => n == "ValueError.__init__"
  | _ => false))
theorem relB'_ok {K : PySem.W.Frag} {B : Addr} (h : relB' K B = true) : RelC K B := by
  unfold relB' at h
  simp only [Bool.and_eq_true] at h
  obtain ⟨h1, h2, h3⟩ := h
  refine ⟨He.eqO_ok h1, h2, ?_⟩
  split at h3
  · rename_i n e
    rw [e, eq_of_beq h3]
  · cases h3
def iniB (K : PySem.W.Frag) (C : Addr) (f : Str) : Bool := He.eqO (PySem.W.findIn K (.ref C) "__init__") (some (some (.ref (He.ma K C "__init__")))) && (decide (PySem.W.typeIn K (.ref (He.ma K C "__init__")) = some (.type "function")) && (He.eqO (PySem.W.findIn K (.ref C) f) (some none) && xfB K C))

/-! ### the law's data -/
structure DefE where
  name : Str
  ps : List Str
  st : Stmt
  N : List Str
structure ClsE where
  name : Str
  qual : Str
  ini : Stmt
structure Lw where
  T : Pk
  defs : List DefE
  cls : List ClsE
  base : Str
  f : Str
  cons : List (Str × D)
  kw : Nat → List (Nat × List Str × List Nat)
section
variable (Z : Lw)
def Lw.nz (k : Nat) : Nat := if k < Z.cls.length then k else 0
def Lw.cn (k : Nat) : Str := match Z.cls[Z.nz k]? with
  | some c => c.name
  | none => Z.base
def Lw.ca (K : PySem.W.Frag) (k : Nat) : Addr := He.ga K (Z.cn k)
def Lw.tb : Tb where
  T := Z.T
  fi := fun i => (Z.defs[i]?).map fun d => (d.name, d.ps)
  ci := fun c => (Z.cls[c]?).map (·.name)
  gl := fun i => (Z.cons[i]?).map (·.1)
  fl := [Z.f]
  kw := Z.kw
def Lw.ok (K : PySem.W.Frag) : Bool := bltNames.all (fun x => (He.Fa.free x).ok K) && (Z.cons.all (fun p => match PySem.W.nsIn K mainGlobals p.1 with
    | some (some u) => conB K p.2 u
    | _ => false) && ((He.Fa.glo Z.base).ok K && (relB' K (He.ga K Z.base) && (Z.cls.all (fun c => (He.Fa.glo c.name).ok K && (oexB K (He.ga K c.name) && iniB K (He.ga K c.name) Z.f)) &&
    ((List.range Z.cls.length).all (fun k => (List.range Z.cls.length).all fun c => decide (PySem.W.exmOne K (.ref (Z.ca K k)) (.ref (Z.ca K c)) = some (Z.T.sub k c))) && Z.defs.all fun d => (He.Fa.glo d.name).ok K)))))
def DefE.dd (d : DefE) : He.DefD := ⟨(d.name, none), d.name, d.name, defArgs d.st, defBody d.st, defScope d.st, [], []⟩
def ClsE.dd (c : ClsE) : He.DefD := ⟨(c.name, some "__init__"), "__init__", c.qual, defArgs c.ini, defBody c.ini, defScope c.ini, [], []⟩
def Lw.fn : List He.DefD := Z.defs.map DefE.dd ++ Z.cls.map ClsE.dd
/-! ### the hook -/
def asR (g : Addr → Option Obj) : Nat → List Addr
  | 0 => [mainGlobals, cStatics]
  | n + 1 => He.growD g (asR g n)
def Lw.obsK (K : PySem.W.Frag) : He.AlD := (Z.ok K && Z.fn.all fun d => d.ok K, Z.fn.map fun d => He.fnW K d.at_)
def Lw.val : He.AlD := (true, Z.fn.map He.DefD.val)
def Lw.obsG (n : Nat) (g : Addr → Option Obj) : He.AlD := Z.obsK (He.frG g (asR g n))
def Lw.hook (n : Nat) : PySem.W.Hook where
  α := He.AlD
  obs := fun s => Z.obsG n s.heap.get?
  val := fun _ => Z.val
  says := fun _ h => ∃ K : PySem.W.Frag, K.In h ∧ Z.obsK K = Z.val
  of := fun _ _ e => ⟨_, He.frG_in, e⟩
  keeps := fun _ _ _ ⟨K, hK, c⟩ k => ⟨K, PySem.W.Frag.In.keeps hK k, c⟩
theorem Lw.obsG_eq {n : Nat} {g : Addr → Option Obj} {s : Shared} (h : ∀ a, g a = s.heap.get? a) : Z.obsG n g = (Z.hook n).obs s := by
  have e : g = s.heap.get? := funext h
  rw [e] <;> rfl
/-! ### the text's look -/
def scpB (N ps : List Str) (sc : Scope) : Bool := decide (sc.kind = .function) && (!sc.isCoroutine && (!sc.isGenerator && (decide N.Nodup && (decide (N.take ps.length = ps) && (ps.all (fun x => match sc.names.lookup x with
    | some .local => true
    | some .cell => true
    | _ => false) && sc.names.all fun y => decide (y.2 ≠ .free))))))
theorem scpB_ok {N ps : List Str} {sc : Scope} (h : scpB N ps sc = true) : FnScope N ps sc := by
  unfold scpB at h
  simp only [Bool.and_eq_true, decide_eq_true_iff, Bool.not_eq_true', List.all_eq_true] at h
  obtain ⟨h1, h2, h3, h4, h5, h6, h7⟩ := h
  refine ⟨h1, h2, h3, h4, h5, fun x hx => ?_, h7⟩
  have := h6 x hx
  split at this
  · rename_i e; exact .inl e
  · rename_i e; exact .inr e
  · cases this
def argB (ps : List Str) (a : Arguments) : Bool := a.posonlyargs.isEmpty && (a.kwonlyargs.isEmpty && (a.vararg.isNone && (a.kwarg.isNone && (decide (a.args.map (·.arg) = ps) && decide ps.Nodup))))
theorem argB_ok {ps : List Str} {a : Arguments} (h : argB ps a = true) : a.posonlyargs = [] ∧ a.kwonlyargs = [] ∧ a.vararg = none ∧ a.kwarg = none ∧ a.args.map (·.arg) = ps ∧ ps.Nodup := by
  unfold argB at h
  simpa [Bool.and_eq_true, decide_eq_true_iff] using h
def Lw.defB (d : DefE) (F : Fn) : Bool := argB d.ps (defArgs d.st) && (scpB d.N d.ps (defScope d.st) && (F.slots == d.N.length && (F.params == d.ps.length && chkSs (Z.tb.ck d.N (defScope d.st)) F.body (defBody d.st))))
def Lw.iniT (c : ClsE) : Bool := argB ["self", "given"] (defArgs c.ini) && (scpB ["self", "given"] ["self", "given"] (defScope c.ini) && chkIni (defScope c.ini) Z.base Z.f (defBody c.ini))
end
section
variable {Z : Lw} {K : PySem.W.Frag} {P : Program} {w : World} {mg : Str → Option Value} {h : Heap}
theorem Lw.defs_ok (c : Z.obsK K = Z.val) (X : K.In h) (G : h.Ns mainGlobals mg) (hd : ∀ i d, Z.defs[i]? = some d → ∃ F, Z.T.tbl i = some F ∧ Z.defB d F = true)
    (hk : ∀ i d, Z.defs[i]? = some d → ∀ n ks perm, (n, ks, perm) ∈ Z.kw i → ∀ (kV doc pm : Value) (an : Option Addr) (cdv ct : Value) (us ws : List Value), (kwG n perm us ws).length = d.ps.length →
      bindArgs (PySem.W.fnOf d.name d.name (defArgs d.st) (defBody d.st) (defScope d.st) .none kV doc pm an cdv ct) ⟨us, ks.zip ws⟩ = pure (d.ps.zip (kwG n perm us ws))) :
    ∀ i y ps, Z.tb.fi i = some (y, ps) → DefOk Z.tb K mg i y ps := by
  intro i y ps e
  obtain ⟨d, ed, e2⟩ := Option.map_eq_some_iff.mp (show (Z.defs[i]?).map (fun d => (d.name, d.ps)) = some (y, ps) from e)
  cases e2
  obtain ⟨F, ht, hb⟩ := hd i d ed
  unfold Lw.defB at hb
  simp only [Bool.and_eq_true, beq_iff_eq] at hb
  obtain ⟨b1, b2, b3, b4, b5⟩ := hb
  have c1 : (Z.ok K && Z.fn.all fun d => d.ok K) = true := congrArg (fun z : He.AlD => z.1) c
  rw [Bool.and_eq_true] at c1
  have el : Z.fn[i]? = some d.dd := by
    unfold Lw.fn
    have hi : i < Z.defs.length := (List.getElem?_eq_some_iff.mp ed).1
    rw [List.getElem?_append_left (by rw [List.length_map]; exact hi), List.getElem?_map, ed]; rfl
  have e3 : (Z.fn.map fun d => He.fnW K d.at_)[i]? = (Z.fn.map He.DefD.val)[i]? := by
    have := congrArg (fun z : He.AlD => z.2) c
    exact congrArg (·[i]?) this
  rw [List.getElem?_map, List.getElem?_map, el] at e3
  obtain ⟨fd, Fd⟩ := He.DefD.funD (Option.some.inj e3) (List.all_eq_true.mp c1.2 _ (List.mem_of_getElem? el))
  have ok := c1.1
  unfold Lw.ok at ok
  simp only [Bool.and_eq_true] at ok
  have gd := List.all_eq_true.mp ok.2.2.2.2.2.2 d (List.mem_of_getElem? ed)
  obtain ⟨a1, a2, a3, a4, a5, a6⟩ := argB_ok b1
  exact ⟨He.fAd K (d.name, none), fd, ⟨⟨F, d.N, d.name, _, _, _, ht, Fd, scpB_ok b2, b5, b3, b4⟩, He.glo_ok X G gd, posB Fd a1 a2 a3 a4 a5 a6, fun n ks perm hm => kwB Fd (hk i d ed n ks perm hm)⟩⟩
theorem Lw.wr_ok (c : Z.obsK K = Z.val) (X : K.In h) (G : h.Ns mainGlobals mg) (hT1 : ∀ i d, Z.T.gl i = some d → ∃ x, Z.cons[i]? = some (x, d)) (hT2 : ∀ k, k < Z.cls.length → Z.T.fld k = some Z.f) (hT3 : ∀ k c, Z.T.sub k c = Z.T.sub (Z.nz k) (Z.nz c))
    (hne : 0 < Z.cls.length) (hi : Z.cls.all Z.iniT = true) (base : Heap) : WrOk Z.tb K P w mg base (Z.ca K) := by
  have c1 : (Z.ok K && Z.fn.all fun d => d.ok K) = true := congrArg (fun z : He.AlD => z.1) c
  rw [Bool.and_eq_true] at c1
  have ok := c1.1
  unfold Lw.ok at ok
  simp only [Bool.and_eq_true] at ok
  obtain ⟨o1, o2, o3, o4, o5, o6, o7⟩ := ok
  have nzl : ∀ k, Z.nz k < Z.cls.length := fun k => by
    unfold Lw.nz
    split
    · assumption
    · exact hne
  have cl : ∀ k, ∃ c, Z.cls[Z.nz k]? = some c ∧ Z.ca K k = He.ga K c.name ∧ ((He.Fa.glo c.name).ok K && (oexB K (He.ga K c.name) && iniB K (He.ga K c.name) Z.f)) = true := fun k => by
    have e := List.getElem?_eq_getElem (nzl k)
    refine ⟨_, e, ?_, List.all_eq_true.mp o5 _ (List.mem_of_getElem? e)⟩
    unfold Lw.ca Lw.cn
    rw [e]
  refine ⟨fun x hx => He.free_ok X G (List.all_eq_true.mp o1 x (List.contains_iff_mem.mp hx)), fun i x e => ?_, fun k y e => ?_, fun k c => ?_, fun k => ?_, fun k f hf => ?_⟩
  · obtain ⟨p, ep, e2⟩ := Option.map_eq_some_iff.mp (show (Z.cons[i]?).map (·.1) = some x from e)
    subst e2
    have q := List.all_eq_true.mp o2 p (List.mem_of_getElem? ep)
    split at q
    · rename_i u eu
      obtain ⟨v, r1, r2⟩ := conB_ok (K := ⟨K, P, w⟩) q
      refine ⟨u, v, PySem.W.mg_of X G eu, r1, fun d ed => ?_⟩
      obtain ⟨x2, ex⟩ := hT1 i d ed
      rw [ep] at ex
      cases ex
      exact r2
    · cases q
  · obtain ⟨cc, ec, e2⟩ := Option.map_eq_some_iff.mp (show (Z.cls[k]?).map (·.name) = some y from e)
    subst e2
    have hl : k < Z.cls.length := (List.getElem?_eq_some_iff.mp ec).1
    obtain ⟨c2, e3, e4, q⟩ := cl k
    have en : Z.nz k = k := if_pos hl
    rw [en, ec] at e3
    cases e3
    rw [e4]
    simp only [Bool.and_eq_true] at q
    obtain ⟨q1, q2, q3⟩ := q
    unfold iniB at q3
    simp only [Bool.and_eq_true] at q3
    obtain ⟨i1, i2, i3, i4⟩ := q3
    have t := List.all_eq_true.mp hi cc (List.mem_of_getElem? ec)
    unfold Lw.iniT at t
    simp only [Bool.and_eq_true] at t
    obtain ⟨t1, t2, t3⟩ := t
    have el : Z.fn[Z.defs.length + k]? = some cc.dd := by
      unfold Lw.fn
      rw [List.getElem?_append_right (by rw [List.length_map]; omega), List.length_map, List.getElem?_map, Nat.add_sub_cancel_left, ec]; rfl
    have e5 : (Z.fn.map fun d => He.fnW K d.at_)[Z.defs.length + k]? = (Z.fn.map He.DefD.val)[Z.defs.length + k]? := by
      have := congrArg (fun z : He.AlD => z.2) c
      exact congrArg (·[Z.defs.length + k]?) this
    rw [List.getElem?_map, List.getElem?_map, el] at e5
    obtain ⟨fd, Fd⟩ := He.DefD.funD (Option.some.inj e5) (List.all_eq_true.mp c1.2 _ (List.mem_of_getElem? el))
    obtain ⟨a1, a2, a3, a4, a5, a6⟩ := argB_ok t1
    have B : He.fAd K (cc.name, some "__init__") = He.ma K (He.ga K cc.name) "__init__" := rfl
    refine ⟨⟨Z.f, He.ma K (He.ga K cc.name) "__init__", fd, ["self", "given"], hT2 k hl, oexB_ok q2, He.eqO_ok i1, of_decide_eq_true i2, ini_ok Fd (scpB_ok t2) t3 (relB'_ok o4) (He.glo_ok X G o3), Fd.bindsN fun kV doc pm an cdv ct us hus => bind_pos a1 a2 a3 a4 a5 a6 hus, He.eqO_ok i3⟩, He.glo_ok X G q1⟩
  · have q := List.all_eq_true.mp o6 (Z.nz k) (List.mem_range.mpr (nzl k))
    have q := of_decide_eq_true (List.all_eq_true.mp q (Z.nz c) (List.mem_range.mpr (nzl c)))
    have en : ∀ k, Z.nz (Z.nz k) = Z.nz k := fun k => if_pos (nzl k)
    have ea : ∀ k, Z.ca K (Z.nz k) = Z.ca K k := fun k => by
      unfold Lw.ca Lw.cn
      rw [en]
    rw [ea, ea] at q
    show _ = some (Z.T.sub k c)
    rw [hT3]
    exact q
  · obtain ⟨c2, e3, e4, q⟩ := cl k
    rw [e4]
    simp only [Bool.and_eq_true] at q
    have q3 := q.2.2
    unfold iniB at q3
    simp only [Bool.and_eq_true] at q3
    exact xfB_ok q3.2.2.2
  · obtain ⟨c2, e3, e4, q⟩ := cl k
    rw [e4]
    simp only [Bool.and_eq_true] at q
    have q3 := q.2.2
    unfold iniB at q3
    simp only [Bool.and_eq_true] at q3
    have ef : f = Z.f := by simpa [Lw.tb] using hf
    rw [ef]
    exact He.eqO_ok q3.2.2.1
end
end Rw

set_option maxHeartbeats 4000000
/-! L7a: how the interpreter's answers are found. -/
namespace Rw
section
variable {T : Pk} {n f : Nat} {ds : List D} {h : Hp} {F : Fn}
theorem callN_step (e : T.tbl f = some F) (c : (F.pure && clos ds) = false) : callN T (n + 1) f ds h = runFn (T.pg (callN T n)) F ds h := by
  simp only [callN, e, c]; rfl
theorem callN_pure (e : T.tbl f = some F) (c : (F.pure && clos ds) = true) : callN T (n + 1) f ds h = orR (pureR h (runFn (T.pg (callN T n)) F ds [])) (runFn (T.pg (callN T n)) F ds h) := by
  simp only [callN, e, c]; rfl
/-- a closed answer, whatever the heap -/
theorem callN_any {d : D} {o : Bool} {h0 : Hp} (e : T.tbl f = some F) (c : (F.pure && clos ds) = true) (hd : clo d = true) (q : callN T n f ds [] = .ok (d, o, h0)) : callN T n f ds h = .ok (d, o, h) := by
  cases n with
  | zero => cases q
  | succ n =>
    rw [callN_pure e c] at q ⊢
    cases er : runFn (T.pg (callN T n)) F ds [] with
    | ok p =>
      obtain ⟨d', o', h'⟩ := p
      rw [er] at q
      have e1 : ∀ g : Hp, pureR g (.ok (d', o', h')) = if clo d' then .ok (d', o', g) else .bad := fun _ => rfl
      rw [e1] at q ⊢
      by_cases hc : clo d' = true
      · rw [if_pos hc] at q ⊢
        have q : (R.ok (d', o', []) : RV) = .ok (d, o, h0) := q
        cases q
        rfl
      · rw [if_neg hc] at q
        have q : (R.ok (d', o', h') : RV) = .ok (d, o, h0) := q
        cases q
        exact absurd hd hc
    | exn x h' =>
      rw [er] at q
      have e1 : ∀ g : Hp, pureR g (.exn x h') = if x.fs.all (fun p => clo p.2) then .exn x g else .bad := fun _ => rfl
      rw [e1] at q
      split at q <;> cases q
    | bad => rw [er] at q; cases q
/-- a closed error, whatever the heap -/
theorem callN_exn {x : Exn} {h0 : Hp} (e : T.tbl f = some F) (c : (F.pure && clos ds) = true) (hd : (x.fs.all fun p => clo p.2) = true) (q : callN T n f ds [] = .exn x h0) : callN T n f ds h = .exn x h := by
  cases n with
  | zero => cases q
  | succ n =>
    rw [callN_pure e c] at q ⊢
    cases er : runFn (T.pg (callN T n)) F ds [] with
    | ok p =>
      obtain ⟨d', o', h'⟩ := p
      rw [er] at q
      have e1 : ∀ g : Hp, pureR g (.ok (d', o', h')) = if clo d' then .ok (d', o', g) else .bad := fun _ => rfl
      rw [e1] at q
      split at q <;> cases q
    | exn y h' =>
      rw [er] at q
      have e1 : ∀ g : Hp, pureR g (.exn y h') = if y.fs.all (fun p => clo p.2) then .exn y g else .bad := fun _ => rfl
      rw [e1] at q ⊢
      by_cases hc : (y.fs.all fun p => clo p.2) = true
      · rw [if_pos hc] at q ⊢
        have q : (R.exn y [] : RV) = .exn x h0 := q
        cases q
        rfl
      · rw [if_neg hc] at q
        have q : (R.exn y h' : RV) = .exn x h0 := q
        cases q
        exact absurd hd hc
    | bad => rw [er] at q; cases q
end
/-! ### rewriting -/
@[simp] theorem asBool_bl (b o : Bool) (h : Hp) : asBool (.ok (.bl b, o, h)) = .ok (b, h) := rfl
section
variable {h : Hp} {i j : Int} {a b : D} {xs ys : List D} {n : Nat}
theorem seqOf_ref (e : h[n]? = some (.lst xs)) : seqOf h (.ref n) = some xs := by simp [seqOf, listOf, e]
theorem ixSeq_of (e : seqOf h a = some xs) : ixSeq h a (.int i) = (ixOf xs.length i).bind fun j => xs[j]? := by
  unfold ixSeq; rw [e]
theorem evIx_ref (e : h[n]? = some (.lst xs)) : evIx (.ref n) (.int i) h = (ixOf xs.length i).bind fun j => xs[j]? := ixSeq_of (seqOf_ref e)
@[simp] theorem evIx_lst : evIx (.lst xs) (.int i) h = (ixOf xs.length i).bind fun j => xs[j]? := rfl
@[simp] theorem evIx_tup : evIx (.tup xs) (.int i) h = (ixOf xs.length i).bind fun j => xs[j]? := rfl
@[simp] theorem op_add : evOp .add (.int i) (.int j) h = .ok (.int (i + j), false, h) := rfl
@[simp] theorem op_sub : evOp .sub (.int i) (.int j) h = .ok (.int (i - j), false, h) := rfl
theorem op_mul (e : mulOk i j = true) : evOp .mul (.int i) (.int j) h = .ok (.int (i * j), false, h) := if_pos e
theorem op_fdiv (e : divOk j = true) : evOp .fdiv (.int i) (.int j) h = .ok (.int (i.fdiv j), false, h) := if_pos e
theorem op_mod (e : j ≠ 0) : evOp .mod (.int i) (.int j) h = .ok (.int (i.fmod j), false, h) := if_neg (by simpa using e)
theorem op_pow (e : powOk i j = true) : evOp .pow (.int i) (.int j) h = .ok (.int (i ^ j.toNat), false, h) := if_pos e
theorem op_addL (e : xs.length + ys.length ≤ maxLen) : evOp .add (.lst xs) (.lst ys) h = .ok (.lst (xs ++ ys), true, h) := if_pos e
theorem op_addT (e : xs.length + ys.length ≤ maxLen) : evOp .add (.tup xs) (.tup ys) h = .ok (.tup (xs ++ ys), false, h) := if_pos e
@[simp] theorem shp_int : shp (.int i) = true := rfl
@[simp] theorem shp_bl (k : Bool) : shp (.bl k) = true := rfl
@[simp] theorem shp_non : shp .non = true := rfl
@[simp] theorem cm_eqI : evCm .eq (.int i) (.int j) h = some (i == j) := rfl
@[simp] theorem cm_neI : evCm .ne (.int i) (.int j) h = some (!(i == j)) := rfl
@[simp] theorem cm_ltI : evCm .lt (.int i) (.int j) h = some (decide (i < j)) := rfl
@[simp] theorem cm_leI : evCm .le (.int i) (.int j) h = some (decide (i ≤ j)) := rfl
@[simp] theorem cm_gtI : evCm .gt (.int i) (.int j) h = some (decide (j < i)) := rfl
@[simp] theorem cm_geI : evCm .ge (.int i) (.int j) h = some (decide (j ≤ i)) := rfl
@[simp] theorem cm_eqB (x y : Bool) : evCm .eq (.bl x) (.bl y) h = some (x == y) := rfl
@[simp] theorem cm_neB (x y : Bool) : evCm .ne (.bl x) (.bl y) h = some (!(x == y)) := rfl
@[simp] theorem cm_isB (x y : Bool) : evCm .is_ (.bl x) (.bl y) h = some (x == y) := rfl
@[simp] theorem cm_isN : evCm .is_ a .non h = some (isNone a) := rfl
@[simp] theorem cm_isntN : evCm .isnt a .non h = some (!isNone a) := rfl
theorem cm_eqD (e1 : shp a = true) (e2 : shp b = true) : evCm .eq a b h = some (eqv a b) := by
  show eqD a b = _
  unfold eqD
  rw [e1, e2]; rfl
theorem cm_neD (e1 : shp a = true) (e2 : shp b = true) : evCm .ne a b h = some (!eqv a b) := by
  show (eqD a b).map _ = _
  unfold eqD
  rw [e1, e2]; rfl
@[simp] theorem b_intI : evB .int [.int i] h = .ok (.int i, false, h) := rfl
@[simp] theorem b_absI : evB .abs [.int i] h = .ok (.int (if i < 0 then -i else i), false, h) := rfl
@[simp] theorem v_max2 : evB .max2 [.int i, .int j] h = .ok (.int (if j > i then j else i), false, h) := rfl
@[simp] theorem v_min2 : evB .min2 [.int i, .int j] h = .ok (.int (if j < i then j else i), false, h) := rfl
theorem v_len (e : seqOf h a = some xs) : evB .len [a] h = .ok (.int xs.length, false, h) := by
  cases a <;> first | (cases e; done) | (simp only [evB, e])
@[simp] theorem b_lenL : evB .len [.lst xs] h = .ok (.int xs.length, false, h) := rfl
@[simp] theorem b_lenT : evB .len [.tup xs] h = .ok (.int xs.length, false, h) := rfl
@[simp] theorem b_listL : evB .list [.lst xs] h = .ok (.lst xs, true, h) := rfl
@[simp] theorem b_listT : evB .list [.tup xs] h = .ok (.lst xs, true, h) := rfl
@[simp] theorem b_tupL : evB .tuple [.lst xs] h = .ok (.tup xs, false, h) := rfl
@[simp] theorem b_tupT : evB .tuple [.tup xs] h = .ok (.tup xs, false, h) := rfl
theorem v_list (e : seqOf h a = some xs) : evB .list [a] h = .ok (.lst xs, true, h) := by
  cases a <;> first | (cases e; done) | (simp only [evB, e])
theorem v_isi {ts : List Nat} {k : Nat} (e : kindOf h a = some k) : evB (.isi ts) [a] h = .ok (.bl (ts.any (isKind k)), false, h) := by
  simp only [evB, e]
end
/-! ### loops -/
section
variable {chk : Hp → Bool} {t : Tg} {b : Env → Hp → SR}
/-- a for that goes on to its end -/
theorem forGo_inv (I : List D → Env → Hp → Prop) : ∀ (post pre : List D) (env : Env) (h : Hp), (∀ env h, I (pre ++ post) env h → chk h = true) → I pre env h →
    (∀ pre1 d post1, pre ++ post = pre1 ++ d :: post1 → ∀ env h, I pre1 env h → chk h = true ∧ ∃ env1 env2 h2, asgT t d env = some env1 ∧ (b env1 h = .nx env2 h2 ∨ b env1 h = .ct env2 h2) ∧ I (pre1 ++ [d]) env2 h2) →
    ∃ env' h', forGo chk t b post env h = .nx env' h' ∧ I (pre ++ post) env' h'
  | [], pre, env, h, hc, hI, step => by
    rw [List.append_nil] at hc ⊢
    exact ⟨env, h, by simp [forGo, hc _ _ hI], hI⟩
  | d :: post, pre, env, h, hc, hI, step => by
    obtain ⟨c, env1, env2, h2, e1, e2, hI2⟩ := step pre d post rfl env h hI
    have ih := forGo_inv I post (pre ++ [d]) env2 h2 (by simpa using hc) hI2 (by simpa using step)
    obtain ⟨env', h', e3, hI3⟩ := ih
    refine ⟨env', h', ?_, by simpa using hI3⟩
    rcases e2 with e2 | e2 <;> simp only [forGo, c, e1, e2, if_true, e3]
theorem forGo_all (I : List D → Env → Hp → Prop) {ds : List D} {env : Env} {h : Hp} (hc : ∀ env h, I ds env h → chk h = true) (h0 : I [] env h)
    (step : ∀ pre d post, ds = pre ++ d :: post → ∀ env h, I pre env h → chk h = true ∧ ∃ env1 env2 h2, asgT t d env = some env1 ∧ (b env1 h = .nx env2 h2 ∨ b env1 h = .ct env2 h2) ∧ I (pre ++ [d]) env2 h2) : ∃ env' h', forGo chk t b ds env h = .nx env' h' ∧ I ds env' h' :=
  forGo_inv I ds [] env h hc h0 step
end
section
variable {chk : Hp → Bool} {f : D → Hp → R (Option D × Hp)}
/-- a comprehension that leaves the heap -/
theorem lcGo_fm {g : D → Option D} {h : Hp} (hc : chk h = true) : ∀ (ds acc : List D), acc.length + ds.length ≤ maxLen → (∀ d ∈ ds, f d h = .ok (g d, h)) → lcGo chk f ds acc h = .ok (acc ++ ds.filterMap g, h)
  | [], acc, _, _ => by simp [lcGo, hc]
  | d :: ds, acc, hl, hf => by
    have e := hf d (List.mem_cons_self ..)
    have hl' : acc.length < maxLen := by simp only [List.length_cons] at hl; omega
    simp only [lcGo, hc, Bool.true_and, decide_eq_true_eq, hl', if_true, e, R.bind_ok]
    cases eg : g d with
    | none =>
      simp only []
      rw [lcGo_fm hc ds acc (by simp only [List.length_cons] at hl; omega) fun x hx => hf x (List.mem_cons_of_mem _ hx)]
      simp [List.filterMap_cons, eg]
    | some y =>
      simp only []
      rw [lcGo_fm hc ds (acc ++ [y]) (by simp only [List.length_cons, List.length_append, List.length_nil] at hl ⊢; omega) fun x hx => hf x (List.mem_cons_of_mem _ hx)]
      simp [List.filterMap_cons, eg]
theorem lcGo_map {g : D → D} {h : Hp} (hc : chk h = true) {ds : List D} (hl : ds.length ≤ maxLen) (hf : ∀ d ∈ ds, f d h = .ok (some (g d), h)) : lcGo chk f ds [] h = .ok (ds.map g, h) := by
  rw [lcGo_fm (g := fun d => some (g d)) hc ds [] (by simpa using hl) hf]
  simp
end
theorem stays_lst (xs ds : List D) (h : Hp) : stays (.lst xs) ds h = true := rfl
theorem stays_tup (xs ds : List D) (h : Hp) : stays (.tup xs) ds h = true := rfl
theorem stays_non (ds : List D) (h : Hp) : stays .non ds h = true := rfl
mutual
theorem D.beq_refl : ∀ d : D, D.beq d d = true
  | .non => by simp [D.beq]
  | .bl _ => by simp [D.beq]
  | .int _ => by simp [D.beq]
  | .str _ => by simp [D.beq]
  | .tup xs => by simp [D.beq, D.beqs_refl xs]
  | .lst xs => by simp [D.beq, D.beqs_refl xs]
  | .dct ks vs => by simp [D.beq, D.beqs_refl ks, D.beqs_refl vs]
  | .set xs => by simp [D.beq, D.beqs_refl xs]
  | .ref _ => by simp [D.beq]
theorem D.beqs_refl : ∀ ds : List D, D.beqs ds ds = true
  | [] => by simp [D.beqs]
  | x :: xs => by simp [D.beqs, D.beq_refl x, D.beqs_refl xs]
end
theorem stays_ref {n : Nat} {ds : List D} {h : Hp} (e : h[n]? = some (.lst ds)) : stays (.ref n) ds h = true := by
  simp [stays, e, D.beqs_refl]
end Rw

set_option maxHeartbeats 4000000
/-! L7b: cells. -/
namespace Rw
section
variable {h : Hp} {n j : Nat} {i : Int} {v : D} {xs ys : List D} {c : Cell}
theorem lt_of_at (e : h[n]? = some c) : n < h.length := (List.getElem?_eq_some_iff.mp e).1
theorem set_at (e : h[n]? = some c) (c' : Cell) : (h.set n c')[n]? = some c' := List.getElem?_set_self (lt_of_at e)
theorem ixOf_nat {k : Nat} (hk : k < n) : ixOf n (k : Int) = some k := by
  unfold ixOf
  rw [if_pos (by omega), if_pos (by omega)]; simp
theorem setRef_at (e : h[n]? = some (.lst xs)) (k : Nat) (hk : k < xs.length) : setRef (.ref n) (.int (k : Int)) v h = some (h.set n (.lst (xs.set k v))) := by
  unfold setRef
  simp only [e, evSet, ixOf_nat hk, Option.map_some]
theorem setRef_lit (e : h[n]? = some (.lst xs)) (k : Nat) (hi : i = k) (hk : k < xs.length) : setRef (.ref n) (.int i) v h = some (h.set n (.lst (xs.set k v))) := by
  rw [hi]; exact setRef_at e k hk
theorem kindOf_ref (e : h[n]? = some (.lst xs)) : kindOf h (.ref n) = some 3 := by simp [kindOf, e]
end
abbrev boxC (a : Int) (b : Bool) (c d : Int) : Cell := .lst [.int a, .bl b, .int c, .int d]
theorem setBox0 {h : Hp} {n : Nat} {a c d v : Int} {b : Bool} (e : h[n]? = some (boxC a b c d)) : setRef (.ref n) (.int 0) (.int v) h = some (h.set n (boxC v b c d)) := setRef_lit (i := 0) e 0 rfl (by simp)
theorem setBox3 {h : Hp} {n : Nat} {a c d v : Int} {b : Bool} (e : h[n]? = some (boxC a b c d)) : setRef (.ref n) (.int 3) (.int v) h = some (h.set n (boxC a b c v)) := setRef_lit (i := 3) e 3 rfl (by simp)
theorem fmod_rng {a m : Int} (h : 0 < m) : 0 ≤ a.fmod m ∧ a.fmod m < m := ⟨Int.fmod_nonneg_of_pos a h, Int.fmod_lt_of_pos a h⟩
theorem fdiv_nn {a m : Int} (h : 0 ≤ a) (hm : 0 < m) : 0 ≤ a.fdiv m := Int.fdiv_nonneg h (by omega)
theorem divOk_small {m : Int} (h : 0 < m) (h2 : m < 1073741824) : divOk m = true := by
  unfold divOk
  have : m ≠ 0 := by omega
  simp only [Bool.and_eq_true, bne_iff_ne, ne_eq, this, not_false_eq_true, Bool.or_eq_true, decide_eq_true_eq, true_and]
  exact .inl (by omega)
theorem mulOk_l {i j : Int} (h : i.natAbs < 2 ^ 64) : mulOk i j = true := by
  unfold mulOk; simp only [h, decide_true, Bool.true_or]
theorem mulOk_r {i j : Int} (h : j.natAbs < 2 ^ 64) : mulOk i j = true := by
  unfold mulOk; simp only [h, decide_true, Bool.true_or, Bool.or_true]
theorem powOk_of {i j : Int} (h : i.natAbs < 2 ^ 64) (h1 : 0 ≤ j) (h2 : j ≤ 1000000) : powOk i j = true := by
  unfold powOk; simp only [h, h1, h2, decide_true, Bool.and_self]
/-- all cells but r are as they were -/
theorem lt_max {n : Nat} (h : n < 100000) : n < maxLen := h
theorem le_max {n : Nat} (h : n ≤ 100000) : n ≤ maxLen := h
def Kp (r : Nat) (h h' : Hp) : Prop := h.length ≤ h'.length ∧ ∀ i, i < h.length → i ≠ r → h'[i]? = h[i]?
section
variable {r n : Nat} {h h' h2 : Hp} {c : Cell}
theorem Kp.refl : Kp r h h := ⟨Nat.le_refl _, fun _ _ _ => rfl⟩
theorem Kp.trans (x : Kp r h h') (y : Kp r h' h2) : Kp r h h2 := ⟨Nat.le_trans x.1 y.1, fun i hi n => (y.2 i (Nat.lt_of_lt_of_le hi x.1) n).trans (x.2 i hi n)⟩
theorem Kp.set : Kp r h (h.set r c) := ⟨by simp, fun i hi n => by rw [List.getElem?_set_ne (Ne.symm n)]⟩
theorem Kp.app (l : Hp) : Kp r h (h ++ l) := ⟨by simp, fun i hi n => by rw [List.getElem?_append_left hi]⟩
/-- a cell that the earlier heap does not have -/
theorem Kp.new (x : Kp r h h') (hn : h.length ≤ n) : Kp r h (h'.set n c) := ⟨by simpa using x.1, fun i hi m => by rw [List.getElem?_set_ne (by omega)]; exact x.2 i hi m⟩
theorem Kp.at (x : Kp r h h') (e : h[n]? = some c) (m : n ≠ r) : h'[n]? = some c := (x.2 n (lt_of_at e) m).trans e
end
theorem rng_ok {i : Int} (h1 : -1000000 ≤ i) (h2 : i < 1000000000) : (decide (-(2 ^ 62) ≤ i) && decide (i < 2 ^ 62)) = true := by
  have e : (2 : Int) ^ 62 = 4611686018427387904 := by decide
  rw [e, Bool.and_eq_true, decide_eq_true_iff, decide_eq_true_iff]
  omega
section
variable {P : Pg} {cx : Option Exn} {cap : Bool} {a b : E} {env : Env} {h h1 h2 : Hp} {i j : Int} {o o2 : Bool} {d : D} {xs ys : List D}
theorem it_rng1 (e : evE P cx false a env h = .ok (.int i, o, h1)) (q1 : -1000000 ≤ i) (q2 : i < 1000000000) : evI P cx cap (.rng1 a) env h = .ok (.non, rng 0 i.toNat, h1) := by
  simp only [evI, e, R.bind_ok, rng_ok q1 q2, if_true]
theorem it_rng2 (e : evE P cx false a env h = .ok (.int i, o, h1)) (e2 : evE P cx false b env h1 = .ok (.int j, o2, h2)) (q1 : -1000000 ≤ i) (q2 : i < 1000000000) (q3 : -1000000 ≤ j) (q4 : j < 1000000000) :
    evI P cx cap (.rng2 a b) env h = .ok (.non, rng i (j - i).toNat, h2) := by
  have r := rng_ok q1 q2
  have r2 := rng_ok q3 q4
  have c : (decide (-(2 ^ 62) ≤ i) && decide (i < 2 ^ 62) && decide (-(2 ^ 62) ≤ j) && decide (j < 2 ^ 62)) = true := by
    rw [Bool.and_assoc (decide (-(2 ^ 62) ≤ i) && decide (i < 2 ^ 62)), r, r2]; rfl
  simp only [evI, e, R.bind_ok, e2, c, if_true]
theorem it_seq (e : evE P cx cap a env h = .ok (d, o, h1)) (q : seqOf h1 d = some xs) : evI P cx cap (.seq a) env h = .ok (d, xs, h1) := by
  simp only [evI, e, R.bind_ok, q, R.of_some]
theorem it_enumL (e : evE P cx cap a env h = .ok (.lst xs, o, h1)) : evI P cx cap (.enum a) env h = .ok (.non, enumD 0 xs, h1) := by
  simp only [evI, e, R.bind_ok]
theorem it_enumT (e : evE P cx cap a env h = .ok (.tup xs, o, h1)) : evI P cx cap (.enum a) env h = .ok (.non, enumD 0 xs, h1) := by
  simp only [evI, e, R.bind_ok]
theorem it_zipL (e : evE P cx cap a env h = .ok (.lst xs, o, h1)) (e2 : evE P cx cap b env h1 = .ok (.lst ys, o2, h2)) : evI P cx cap (.zip a b) env h = .ok (.non, zipD xs ys, h2) := by
  simp only [evI, e, e2, R.bind_ok]
theorem it_zipT (e : evE P cx cap a env h = .ok (.tup xs, o, h1)) (e2 : evE P cx cap b env h1 = .ok (.tup ys, o2, h2)) : evI P cx cap (.zip a b) env h = .ok (.non, zipD xs ys, h2) := by
  simp only [evI, e, e2, R.bind_ok]
theorem s_for {t : Tg} {w : It} {s : Ss} (e : evI P cx true w env h = .ok (d, xs, h1)) : evS P cx (.for_ t w s) env h = forGo (stays d xs) t (evSs P cx s) xs env h1 := by
  simp only [evS, e, R.st_ok]
end
section
variable {P : Pg} {cx : Option Exn} {s : S} {r : Ss} {env env1 : Env} {h h1 : Hp} {d : D} {o : Bool} {x : Exn} {F : Fn} {ds : List D}
theorem ss_nx (e : evS P cx s env h = .nx env1 h1) : evSs P cx (.cons s r) env h = evSs P cx r env1 h1 := by simp only [evSs, e, SR.seq_nx]
theorem ss_rt (e : evS P cx s env h = .rt d o h1) : evSs P cx (.cons s r) env h = .rt d o h1 := by simp only [evSs, e, SR.seq_rt]
theorem ss_ct (e : evS P cx s env h = .ct env1 h1) : evSs P cx (.cons s r) env h = .ct env1 h1 := by simp only [evSs, e, SR.seq_ct]
theorem ss_bk (e : evS P cx s env h = .bk env1 h1) : evSs P cx (.cons s r) env h = .bk env1 h1 := by simp only [evSs, e, SR.seq_bk]
theorem ss_exn (e : evS P cx s env h = .exn x env1 h1) : evSs P cx (.cons s r) env h = .exn x env1 h1 := by simp only [evSs, e, SR.seq_exn]
theorem ss_nil : evSs P cx .nil env h = .nx env h := by simp only [evSs]
theorem fn_rt (hl : ds.length = F.params) (he : ds.map (fun d => some (⟨d, false⟩ : Sl)) ++ List.replicate (F.slots - F.params) none = env) (e : evSs P none F.body env h = .rt d o h1) : runFn P F ds h = .ok (d, o, h1) := by
  unfold runFn
  rw [if_pos hl, he, e]
theorem fn_nx (hl : ds.length = F.params) (he : ds.map (fun d => some (⟨d, false⟩ : Sl)) ++ List.replicate (F.slots - F.params) none = env) (e : evSs P none F.body env h = .nx env1 h1) : runFn P F ds h = .ok (.non, false, h1) := by
  unfold runFn
  rw [if_pos hl, he, e]
theorem fn_exn (hl : ds.length = F.params) (he : ds.map (fun d => some (⟨d, false⟩ : Sl)) ++ List.replicate (F.slots - F.params) none = env) (e : evSs P none F.body env h = .exn x env1 h1) : runFn P F ds h = .exn x h1 := by
  unfold runFn
  rw [if_pos hl, he, e]
theorem s_if {c : E} {a b : Ss} {k : Bool} (e : evE P cx false c env h = .ok (.bl k, o, h1)) : evS P cx (.ifs c a b) env h = if k then evSs P cx a env h1 else evSs P cx b env h1 := by
  simp only [evS, e, asBool_bl, R.st_ok]
theorem s_ifF {c : E} {a b : Ss} {r : SR} (e : evE P cx false c env h = .ok (.bl false, o, h1)) (q : evSs P cx b env h1 = r) : evS P cx (.ifs c a b) env h = r := by rw [s_if e]; exact q
theorem s_ifT {c : E} {a b : Ss} {r : SR} (e : evE P cx false c env h = .ok (.bl true, o, h1)) (q : evSs P cx a env h1 = r) : evS P cx (.ifs c a b) env h = r := by rw [s_if e]; exact q
theorem s_asg {i : Nat} {e : E} (q : evE P cx true e env h = .ok (d, o, h1)) (hi : i < env.length) : evS P cx (.asg (.n i) e) env h = .nx (env.set i (some ⟨d, o⟩)) h1 := by
  simp only [evS, q, R.st_ok, hi, if_true]
theorem s_asgT {t : Tgs} {e : E} (q : evE P cx true e env h = .ok (d, o, h1)) (a : asgT (.t t) d env = some env1) : evS P cx (.asg (.t t) e) env h = .nx env1 h1 := by
  simp only [evS, q, R.st_ok, a]
theorem s_ret {e : E} (q : evE P cx true e env h = .ok (d, o, h1)) : evS P cx (.ret e) env h = .rt d o h1 := by simp only [evS, q, R.st_ok]
theorem s_retv {i : Nat} (q : env[i]? = some (some ⟨d, o⟩)) : evS P cx (.retv i) env h = .rt d o h := by simp only [evS, q]
theorem s_frz {is : List Nat} : evS P cx (.frz is s) env h = evS P cx s (frzE env is) h := by simp only [evS]
end
section
variable {P : Pg} {cx : Option Exn} {cap : Bool} {e c : E} {t : Tg} {w : It} {own : List Nat} {env : Env} {h h1 : Hp} {src : D} {xs : List D}
/-- a comprehension without a test that leaves the heap -/
theorem e_lc {g : D → D} (ew : evI P cx false w env h = .ok (src, xs, h1)) (hc : stays src xs h1 = true) (hl : xs.length ≤ maxLen)
    (hf : ∀ d ∈ xs, ∃ env1 o, asgT t d (wipeE env own) = some env1 ∧ evE P cx true e env1 h1 = .ok (g d, o, h1)) : evE P cx cap (.lc e t w .yes own) env h = .ok (.lst (xs.map g), true, h1) := by
  simp only [evE, ew, R.bind_ok]
  rw [lcGo_map (g := g) hc hl fun d hd => by
    obtain ⟨env1, o, a1, a2⟩ := hf d hd
    simp only [a1, asBool_bl, R.nox_ok, R.bind_ok, if_true, a2]]
  rfl
/-- .. with a test -/
theorem e_lcIf {g : D → D} {p : D → Bool} (ew : evI P cx false w env h = .ok (src, xs, h1)) (hc : stays src xs h1 = true) (hl : xs.length ≤ maxLen)
    (hf : ∀ d ∈ xs, ∃ env1 o, asgT t d (wipeE env own) = some env1 ∧ evE P cx false c env1 h1 = .ok (.bl (p d), o, h1) ∧ (p d = true → ∃ o, evE P cx true e env1 h1 = .ok (g d, o, h1))) :
    evE P cx cap (.lc e t w c own) env h = .ok (.lst ((xs.filter p).map g), true, h1) := by
  simp only [evE, ew, R.bind_ok]
  rw [lcGo_fm (g := fun d => if p d then some (g d) else none) hc xs [] (by simpa using hl) fun d hd => by
    obtain ⟨env1, o, a1, a2, a3⟩ := hf d hd
    cases hp : p d with
    | true =>
      obtain ⟨o2, a4⟩ := a3 hp
      simp only [a1, a2, hp, asBool_bl, R.nox_ok, R.bind_ok, if_true, a4]
    | false => simp [a1, a2, hp]]
  have e : ∀ l : List D, l.filterMap (fun d => if p d then some (g d) else none) = (l.filter p).map g := fun l => by
    induction l with
    | nil => rfl
    | cons d l ih =>
      rw [List.filterMap_cons, List.filter_cons]
      by_cases q : p d = true
      · simp [q, ih]
      · simp [q, ih]
  simp [e]
end
section
variable {P : Pg} {cx : Option Exn} {cap : Bool} {a b c : E} {es : Es} {env : Env} {h h1 h2 : Hp} {d x y : D} {ds : List D} {o o2 k : Bool} {r : RV}
theorem e_var {i : Nat} (e : env[i]? = some (some ⟨d, o⟩)) (q : (cap && o) = false) : evE P cx cap (.var i) env h = .ok (d, false, h) := by simp only [evE, e, q]; rfl
theorem e_con : evE P cx cap (.con d) env h = .ok (d, false, h) := by simp only [evE]
theorem e_andT (e1 : evE P cx false a env h = .ok (.bl true, o, h1)) (e2 : evE P cx false b env h1 = .ok (.bl k, o2, h2)) : evE P cx cap (.and_ a b) env h = .ok (.bl k, false, h2) := by
  simp only [evE, e1, e2, asBool_bl, R.bind_ok, if_true]
theorem e_andF (e1 : evE P cx false a env h = .ok (.bl false, o, h1)) : evE P cx cap (.and_ a b) env h = .ok (.bl false, false, h1) := by
  simp only [evE, e1, asBool_bl, R.bind_ok]; rfl
theorem e_orF (e1 : evE P cx false a env h = .ok (.bl false, o, h1)) (e2 : evE P cx false b env h1 = .ok (.bl k, o2, h2)) : evE P cx cap (.or_ a b) env h = .ok (.bl k, false, h2) := by
  simp only [evE, e1, e2, asBool_bl, R.bind_ok]; rfl
theorem e_orT (e1 : evE P cx false a env h = .ok (.bl true, o, h1)) : evE P cx cap (.or_ a b) env h = .ok (.bl true, false, h1) := by
  simp only [evE, e1, asBool_bl, R.bind_ok, if_true]
theorem e_not (e1 : evE P cx false a env h = .ok (.bl k, o, h1)) : evE P cx cap (.not_ a) env h = .ok (.bl (!k), false, h1) := by
  simp only [evE, e1, asBool_bl, R.bind_ok]
theorem e_cmp {m : Cm} (e1 : evE P cx false a env h = .ok (x, o, h1)) (e2 : evE P cx false b env h1 = .ok (y, o2, h2)) (q : evCm m x y h2 = some k) : evE P cx cap (.cmp m a b) env h = .ok (.bl k, false, h2) := by
  simp only [evE, e1, e2, q, R.of_some, R.bind_ok]
theorem e_bin {m : Op} (e1 : evE P cx false a env h = .ok (x, o, h1)) (e2 : evE P cx false b env h1 = .ok (y, o2, h2)) (q : evOp m x y h2 = r) : evE P cx cap (.bin m a b) env h = r := by
  simp only [evE, e1, e2, q, R.bind_ok]
theorem e_idx (e1 : evE P cx false a env h = .ok (x, o, h1)) (e2 : evE P cx false b env h1 = .ok (y, o2, h2)) (q : evIx x y h2 = some d) : evE P cx cap (.idx a b) env h = .ok (d, false, h2) := by
  simp only [evE, e1, e2, q, R.of_some, R.bind_ok]
theorem e_call {f : Nat} (e1 : evEs P cx true es env h = .ok (ds, h1)) (q : P.call f ds h1 = r) : evE P cx cap (.call f es) env h = r := by
  simp only [evE, e1, q, R.bind_ok]
theorem e_blt {m : Blt} (e1 : evEs P cx false es env h = .ok (ds, h1)) (q : evB m ds h1 = r) : evE P cx cap (.blt m es) env h = r := by
  simp only [evE, e1, q, R.bind_ok]
theorem e_ifeT (e1 : evE P cx false c env h = .ok (.bl true, o, h1)) (q : evE P cx cap a env h1 = r) : evE P cx cap (.ife c a b) env h = r := by
  simp only [evE, e1, asBool_bl, R.bind_ok, if_true, q]
theorem e_ifeF (e1 : evE P cx false c env h = .ok (.bl false, o, h1)) (q : evE P cx cap b env h1 = r) : evE P cx cap (.ife c a b) env h = r := by
  simp only [evE, e1, asBool_bl, R.bind_ok]; exact q
theorem es_nil' : evEs P cx cap .nil env h = .ok ([], h) := by simp only [evEs]
theorem es_cons' (e1 : evE P cx cap a env h = .ok (d, o, h1)) (e2 : evEs P cx cap es env h1 = .ok (ds, h2)) : evEs P cx cap (.cons a es) env h = .ok (d :: ds, h2) := by
  simp only [evEs, e1, e2, R.bind_ok]
theorem e_lst (e1 : evEs P cx true es env h = .ok (ds, h1)) (q : ds.length ≤ maxLen) : evE P cx cap (.lst es) env h = .ok (.lst ds, true, h1) := by
  simp only [evE, e1, R.bind_ok, q, if_true]
theorem e_tup (e1 : evEs P cx true es env h = .ok (ds, h1)) (q : ds.length ≤ maxLen) : evE P cx cap (.tup es) env h = .ok (.tup ds, false, h1) := by
  simp only [evE, e1, R.bind_ok, q, if_true]
end
theorem s_try_rt {P : Pg} {cx : Option Exn} {b : Ss} {hs : Hs} {env : Env} {h h1 : Hp} {d : D} {o : Bool} (e : evSs P cx b env h = .rt d o h1) : evS P cx (.try_ b hs) env h = .rt d o h1 := by simp only [evS, e]
theorem s_try_exn {P : Pg} {cx : Option Exn} {b : Ss} {hs : Hs} {env env1 : Env} {h h1 : Hp} {x : Exn} {r : SR} (e : evSs P cx b env h = .exn x env1 h1) (q : evHs P x hs env1 h1 = r) : evS P cx (.try_ b hs) env h = r := by simp only [evS, e, q]
theorem callN_run {T : Pk} {n f : Nat} {ds : List D} {F : Fn} {d : D} {o : Bool} {h0 : Hp} (e : T.tbl f = some F) (c : (F.pure && clos ds) = true) (hd : clo d = true) (q : runFn (T.pg (callN T n)) F ds [] = .ok (d, o, h0)) (h : Hp) : callN T (n + 1) f ds h = .ok (d, o, h) := by
  rw [callN_pure e c, q]
  have e1 : pureR h (.ok (d, o, h0)) = .ok (d, o, h) := if_pos hd
  rw [e1]; rfl
theorem callN_runX {T : Pk} {n f : Nat} {ds : List D} {F : Fn} {x : Exn} {h0 : Hp} (e : T.tbl f = some F) (c : (F.pure && clos ds) = true) (hd : (x.fs.all fun p => clo p.2) = true) (q : runFn (T.pg (callN T n)) F ds [] = .exn x h0) (h : Hp) : callN T (n + 1) f ds h = .exn x h := by
  rw [callN_pure e c, q]
  have e1 : pureR h (.exn x h0) = .exn x h := if_pos hd
  rw [e1]; rfl
theorem lcGo_zip {chk : Hp → Bool} {f : D → Hp → R (Option D × Hp)} {h : Hp} (hc : chk h = true) : ∀ (ds ys acc : List D), ds.length = ys.length → acc.length + ds.length ≤ maxLen → (∀ (k : Nat) (d y : D), ds[k]? = some d → ys[k]? = some y → f d h = .ok (some y, h)) → lcGo chk f ds acc h = .ok (acc ++ ys, h)
  | [], [], acc, _, _, _ => by simp [lcGo, hc]
  | [], _ :: _, _, e, _, _ => by cases e
  | _ :: _, [], _, e, _, _ => by cases e
  | d :: ds, y :: ys, acc, e, hl, hf => by
    have e1 := hf 0 d y rfl rfl
    have hl' : acc.length < maxLen := by simp only [List.length_cons] at hl; omega
    simp only [lcGo, hc, Bool.true_and, decide_eq_true_eq, hl', if_true, e1, R.bind_ok]
    rw [lcGo_zip hc ds ys (acc ++ [y]) (by simpa using e) (by simp only [List.length_cons, List.length_append, List.length_nil] at hl ⊢; omega) fun k d y h1 h2 => hf (k + 1) d y (by simpa using h1) (by simpa using h2)]
    simp
/-- a comprehension, item by item -/
theorem e_lcZ {P : Pg} {cx : Option Exn} {cap : Bool} {e : E} {t : Tg} {w : It} {own : List Nat} {env : Env} {h h1 : Hp} {src : D} {xs ys : List D} (ew : evI P cx false w env h = .ok (src, xs, h1)) (hc : stays src xs h1 = true) (hl : xs.length = ys.length) (hz : xs.length ≤ maxLen)
    (hf : ∀ (k : Nat) (d y : D), xs[k]? = some d → ys[k]? = some y → ∃ env1 o, asgT t d (wipeE env own) = some env1 ∧ evE P cx true e env1 h1 = .ok (y, o, h1)) : evE P cx cap (.lc e t w .yes own) env h = .ok (.lst ys, true, h1) := by
  simp only [evE, ew, R.bind_ok]
  rw [lcGo_zip hc xs ys [] hl (by simpa using hz) fun k d y h1 h2 => by
    obtain ⟨env1, o, a1, a2⟩ := hf k d y h1 h2
    simp only [a1, asBool_bl, R.nox_ok, R.bind_ok, if_true, a2]]
  rfl
theorem enum_at : ∀ (xs : List D) (i k : Nat) (d : D), (enumD i xs)[k]? = some d → ∃ x, xs[k]? = some x ∧ d = .tup [.int ((i + k : Nat)), x]
  | [], i, k, d, e => by simp [enumD] at e
  | x :: xs, i, 0, d, e => by
    simp [enumD] at e
    exact ⟨x, rfl, by rw [← e]; simp⟩
  | x :: xs, i, k + 1, d, e => by
    obtain ⟨y, e1, e2⟩ := enum_at xs (i + 1) k d (by simpa [enumD] using e)
    exact ⟨y, by simpa using e1, by rw [e2]; congr 3; omega⟩
theorem enum_len : ∀ (xs : List D) (i : Nat), (enumD i xs).length = xs.length
  | [], _ => rfl
  | _ :: xs, i => by simp [enumD, enum_len xs (i + 1)]
def appS : Ss → Ss → Ss
  | .nil, b => b
  | .cons s r, b => .cons s (appS r b)
theorem ss_app {P : Pg} {cx : Option Exn} : ∀ {a b : Ss} {env env1 : Env} {h h1 : Hp}, evSs P cx a env h = .nx env1 h1 → evSs P cx (appS a b) env h = evSs P cx b env1 h1
  | .nil, b, env, env1, h, h1, e => by
    simp only [evSs] at e
    cases e; rfl
  | .cons s r, b, env, env1, h, h1, e => by
    simp only [evSs] at e
    cases q : evS P cx s env h with
    | nx env2 h2 =>
      rw [q, SR.seq_nx] at e
      exact (ss_nx q).trans (ss_app e)
    | bk _ _ => rw [q] at e; cases e
    | ct _ _ => rw [q] at e; cases e
    | rt _ _ _ => rw [q] at e; cases e
    | exn _ _ _ => rw [q] at e; cases e
    | bad => rw [q] at e; cases e
theorem evIn_lst {x : D} {xs : List D} {h : Hp} (e1 : shp x = true) (e2 : xs.all shp = true) : evCm .in_ x (.lst xs) h = some (xs.any fun y => eqv y x) := by
  show inAny x xs = _
  unfold inAny
  rw [e1, e2]; rfl
section
variable {P : Pg} {cx : Option Exn} {cap : Bool} {a b : E} {es : Es} {env : Env} {h h1 h2 : Hp} {d d1 d2 y : D} {ds xs : List D} {o o1 o2 : Bool} {r : RV} {i j k : Nat} {m : Mt}
theorem s_par2 (e1 : evE P cx true a env h = .ok (d1, o1, h1)) (e2 : evE P cx true b env h1 = .ok (d2, o2, h2)) (hi : i < env.length) (hj : j < env.length) : evS P cx (.par [i, j] (.cons a (.cons b .nil))) env h = .nx ((env.set i (some ⟨d1, o1⟩)).set j (some ⟨d2, o2⟩)) h2 := by
  have hj' : j < (env.set i (some ⟨d1, o1⟩)).length := by rw [List.length_set]; exact hj
  simp only [evS, evPar, e1, e2, R.bind_ok, R.st_ok, setsE, hi, hj', if_true]
theorem e_mth (e1 : evE P cx false a env h = .ok (.ref k, o, h1)) (k1 : kindOf h1 (.ref k) = some 3) (q : mtOk m (some 3) = true) (e2 : evEs P cx m.keeps es env h1 = .ok (ds, h2)) (k2 : kindOf h2 (.ref k) = some 3) (e3 : evMth m (.ref k) ds h2 = r) : evE P cx cap (.mth m a es) env h = r := by
  simp only [evE, e1, R.bind_ok, k1, q, if_true, e2, k2, e3]
  rfl
theorem s_mutV (e1 : env[i]? = some (some ⟨.ref k, false⟩)) (e2 : evE P cx false (.mth m (.var i) es) env h = .ok (d, o, h1)) : evS P cx (.mut m (.var i) es) env h = .nx env h1 := by
  have e3 : ownAt env i = none := by simp only [ownAt, e1]
  simp only [evS, rootVar, e3, e2, R.st_ok]
theorem s_mutE (hr : rootVar a = none) (e2 : evE P cx false (.mth m a es) env h = .ok (d, o, h1)) : evS P cx (.mut m a es) env h = .nx env h1 := by
  simp only [evS, hr, e2, R.st_ok]
theorem mth_app (e : h[k]? = some (.lst xs)) (hl : xs.length < 100000) : evMth .append (.ref k) [y] h = .ok (.non, false, h.set k (.lst (xs ++ [y]))) := by
  have q : xs.length < maxLen := hl
  show mthMut .append (.ref k) [y] h = _
  simp only [mthMut, e, evMut, q, if_true]
theorem mth_ins0 (e : h[k]? = some (.lst xs)) (hl : xs.length < 100000) : evMth .insert (.ref k) [.int 0, y] h = .ok (.non, false, h.set k (.lst (y :: xs))) := by
  have q : decide (xs.length < maxLen) = true := decide_eq_true hl
  show mthMut .insert (.ref k) [.int 0, y] h = _
  simp only [mthMut, e, evMut, q, Bool.and_true]
  rfl
theorem mth_clr (e : h[k]? = some (.lst xs)) : evMth .clear (.ref k) [] h = .ok (.non, false, h.set k (.lst [])) := by
  show mthMut .clear (.ref k) [] h = _
  simp only [mthMut, e, evMut]
end
section
variable {P : Pg} {cx : Option Exn} {e : E} {env env1 : Env} {h h1 : Hp} {d : D} {o : Bool} {x : Exn} {c : Nat} {f : PySem.Str}
theorem s_expr (q : evE P cx false e env h = .ok (d, o, h1)) : evS P cx (.expr e) env h = .nx env h1 := by simp only [evS, q, R.st_ok]
theorem s_exprX (q : evE P cx false e env h = .exn x h1) : evS P cx (.expr e) env h = .exn x env h1 := by simp only [evS, q, R.st_exn]
theorem s_raise (q : evE P cx true e env h = .ok (d, o, h1)) (hf : P.fld c = some f) : evS P cx (.raise c (.cons e .nil)) env h = .exn ⟨c, [(f, d)]⟩ env h1 := by
  simp only [evS, evEs, q, R.bind_ok, R.st_ok, hf]
theorem s_retX (q : evE P cx true e env h = .exn x h1) : evS P cx (.ret e) env h = .exn x env h1 := by simp only [evS, q, R.st_exn]
end
theorem cm_eqL0 {h : Hp} : evCm .eq (.lst []) (.lst []) h = some true := rfl
theorem rng_mem {n : Nat} {d : D} (hd : d ∈ rng 0 n) : ∃ k : Nat, k < n ∧ d = .int k := by
  unfold rng at hd
  obtain ⟨k, hk, rfl⟩ := List.mem_map.mp hd
  exact ⟨k, List.mem_range.mp hk, by rw [Int.zero_add]⟩
theorem rng_len {i : Int} {n : Nat} : (rng i n).length = n := by simp [rng]
theorem ix_at {h : Hp} {a : D} {xs : List D} {k : Nat} {x : D} (e : seqOf h a = some xs) (ek : xs[k]? = some x) (na : ∀ s, a ≠ .str s) : evIx a (.int (k : Int)) h = some x := by
  have lt : k < xs.length := (List.getElem?_eq_some_iff.mp ek).1
  have q : ixSeq h a (.int (k : Int)) = some x := by rw [ixSeq_of e, ixOf_nat lt]; exact ek
  cases a with
  | str s => exact absurd rfl (na s)
  | _ => exact q
theorem mth_pop {h : Hp} {n k : Nat} {xs : List D} {x : D} (e : h[n]? = some (.lst xs)) (hk : xs[k]? = some x) (hl : xs.length ≤ maxLen) : evMth .pop1 (.ref n) [.int (k : Int)] h = .ok (x, false, h.set n (.lst (xs.eraseIdx k))) := by
  have lt : k < xs.length := (List.getElem?_eq_some_iff.mp hk).1
  show mthMut .pop1 (.ref n) [.int (k : Int)] h = _
  unfold mthMut
  simp only [e, evMut, ixOf_nat lt, hk, hl, if_true]
theorem perm_erase {α : Type} {xs : List α} {k : Nat} {x : α} (hk : xs[k]? = some x) : (x :: xs.eraseIdx k).Perm xs := by
  induction xs generalizing k with
  | nil => cases hk
  | cons y ys ih =>
    cases k with
    | zero => cases hk; exact .refl _
    | succ k =>
      rw [List.eraseIdx_cons_succ]
      exact (List.Perm.swap y x _).trans ((ih (by simpa using hk)).cons y)
end Rw

/-! the defs of the law, printed by gen.py -/
namespace K13
open Rw
open PySem (Str)
/-- is_integer(value): 0 value -/
def b_is_integer : Ss := (.cons (.ret (.and_ (.blt (.isi [0]) (.cons (.var 0) .nil)) (.not_ (.blt (.isi [1]) (.cons (.var 0) .nil)))))
    .nil)
def n_is_integer : List Str := ["value"]
abbrev f_is_integer : Nat := 0
def F_is_integer : Fn := ⟨1, 1, true, b_is_integer⟩
/-- is_within(value, low, high): 0 value 1 low 2 high -/
def b_is_within : Ss := (.cons (.ret (.and_ (.call 0 (.cons (.var 0) .nil)) (.chain .le .le (.var 1) (.var 0) (.var 2))))
    .nil)
def n_is_within : List Str := ["value", "low", "high"]
abbrev f_is_within : Nat := 1
def F_is_within : Fn := ⟨3, 3, true, b_is_within⟩
/-- is_index(value, many): 0 value 1 many -/
def b_is_index : Ss := (.cons (.ret (.and_ (.call 0 (.cons (.var 0) .nil)) (.chain .le .lt (.con (.int 0)) (.var 0) (.var 1))))
    .nil)
def n_is_index : List Str := ["value", "many"]
abbrev f_is_index : Nat := 2
def F_is_index : Fn := ⟨2, 2, true, b_is_index⟩
/-- is_tuple(value, many): 0 value 1 many -/
def b_is_tuple : Ss := (.cons (.ret (.and_ (.blt (.isi [4]) (.cons (.var 0) .nil)) (.cmp .eq (.blt .len (.cons (.var 0) .nil)) (.var 1))))
    .nil)
def n_is_tuple : List Str := ["value", "many"]
abbrev f_is_tuple : Nat := 3
def F_is_tuple : Fn := ⟨2, 2, true, b_is_tuple⟩
/-- relabeled(labels): 0 labels 1 names 2 label -/
def l_relabeled_0 : Ss := (.cons (.mut .setdef (.var 1) (.cons (.var 2) (.cons (.blt .len (.cons (.var 1) .nil)) .nil)))
    .nil)
def c_relabeled_1 : E := (.lc (.idx (.var 1) (.var 2)) (.n 2) (.seq (.var 0)) .yes [2])
def b_relabeled : Ss := (.cons (.asg (.n 1) (.dsp .nil .nil))
    (.cons (.for_ (.n 2) (.seq (.var 0)) l_relabeled_0)
    (.cons (.ret (.blt .tuple (.cons c_relabeled_1 .nil)))
    .nil)))
def n_relabeled : List Str := ["labels", "names", "label"]
abbrev f_relabeled : Nat := 4
def F_relabeled : Fn := ⟨1, 3, true, b_relabeled⟩
/-- is_partition_of(many, value): 0 many 1 value 2 label -/
def c_is_partition_of_0 : E := (.lc (.call 0 (.cons (.var 2) .nil)) (.n 2) (.seq (.var 1)) .yes [2])
def b_is_partition_of : Ss := (.cons (.ifs (.or_ (.not_ (.call 3 (.cons (.var 1) (.cons (.var 0) .nil)))) (.not_ (.blt .all (.cons c_is_partition_of_0 .nil))))
    (.cons (.ret (.con (.bl false)))
    .nil)
    .nil)
    (.cons (.ret (.cmp .eq (.call 4 (.cons (.var 1) .nil)) (.var 1)))
    .nil))
def n_is_partition_of : List Str := ["many", "value", "label"]
abbrev f_is_partition_of : Nat := 5
def F_is_partition_of : Fn := ⟨2, 3, true, b_is_partition_of⟩
/-- partitions_of(many): 0 many 1 found 2 _ 3 labels 4 label -/
def c_partitions_of_0 : E := (.lc2 (.tup (.star (.var 3) (.cons (.var 4) .nil))) (.n 3) (.seq (.var 1)) .yes (.n 4) (.rng1 (.bin .add (.blt .max1 (.cons (.var 3) (.cons (.neg (.con (.int 1))) .nil))) (.con (.int 2)))) .yes [3, 4] [4])
def l_partitions_of_1 : Ss := (.cons (.asg (.n 1) c_partitions_of_0)
    .nil)
def b_partitions_of : Ss := (.cons (.asg (.n 1) (.lst (.cons (.tup .nil) .nil)))
    (.cons (.for_ (.n 2) (.rng1 (.var 0)) l_partitions_of_1)
    (.cons (.retv 1)
    .nil)))
def n_partitions_of : List Str := ["many", "found", "_", "labels", "label"]
abbrev f_partitions_of : Nat := 6
def F_partitions_of : Fn := ⟨1, 5, true, b_partitions_of⟩
/-- lots_of(partition): 0 partition 1 lots 2 _ 3 thing 4 label 5 lot -/
def c_lots_of_0 : E := (.lc (.heap (.lst .nil)) (.n 2) (.rng1 (.bin .add (.blt .max1 (.cons (.var 0) .nil)) (.con (.int 1)))) .yes [2])
def l_lots_of_1 : Ss := (.cons (.mut .append (.idx (.var 1) (.var 4)) (.cons (.var 3) .nil))
    .nil)
def c_lots_of_2 : E := (.lc (.blt .tuple (.cons (.var 5) .nil)) (.n 5) (.seq (.var 1)) .yes [5])
def b_lots_of : Ss := (.cons (.asg (.n 1) c_lots_of_0)
    (.cons (.for_ (.t (.cons (.n 3) (.cons (.n 4) .nil))) (.enum (.var 0)) l_lots_of_1)
    (.cons (.ret (.blt .tuple (.cons c_lots_of_2 .nil)))
    .nil)))
def n_lots_of : List Str := ["partition", "lots", "_", "thing", "label", "lot"]
abbrev f_lots_of : Nat := 7
def F_lots_of : Fn := ⟨1, 6, true, b_lots_of⟩
/-- count_lots(partition): 0 partition -/
def b_count_lots : Ss := (.cons (.ret (.bin .add (.blt .max1 (.cons (.var 0) .nil)) (.con (.int 1))))
    .nil)
def n_count_lots : List Str := ["partition"]
abbrev f_count_lots : Nat := 8
def F_count_lots : Fn := ⟨1, 1, true, b_count_lots⟩
/-- united_of(one, other): 0 one 1 other 2 labels 3 lot 4 here 5 thing 6 label -/
def c_united_of_0 : E := (.sc (.idx (.var 2) (.var 5)) (.n 5) (.seq (.var 3)) .yes [5])
def c_united_of_1 : E := (.lc (.ife (.cmp .in_ (.var 6) (.var 4)) (.idx (.var 2) (.idx (.var 3) (.con (.int 0)))) (.var 6)) (.n 6) (.seq (.var 2)) .yes [6])
def l_united_of_2 : Ss := (.cons (.asg (.n 4) c_united_of_0)
    (.cons (.asg (.n 2) c_united_of_1)
    .nil))
def b_united_of : Ss := (.cons (.asg (.n 2) (.blt .list (.cons (.var 0) .nil)))
    (.cons (.for_ (.n 3) (.seq (.call 7 (.cons (.var 1) .nil))) l_united_of_2)
    (.cons (.frz [2] (.ret (.call 4 (.cons (.var 2) .nil))))
    .nil)))
def n_united_of : List Str := ["one", "other", "labels", "lot", "here", "thing", "label"]
abbrev f_united_of : Nat := 9
def F_united_of : Fn := ⟨2, 7, true, b_united_of⟩
/-- check_posts(posts): 0 posts -/
def b_check_posts : Ss := (.cons (.ifs (.not_ (.call 1 (.cons (.var 0) (.cons (.glo 0) (.cons (.glo 1) .nil)))))
    (.cons (.raise 0 (.cons (.var 0) .nil))
    .nil)
    .nil)
    .nil)
def n_check_posts : List Str := ["posts"]
abbrev f_check_posts : Nat := 10
def F_check_posts : Fn := ⟨1, 1, true, b_check_posts⟩
/-- told_frames_of(posts): 0 posts 1 found 2 partition 3 many 4 one 5 other -/
def c_told_frames_of_0 : E := (.lc2 (.tup (.cons (.var 2) (.cons (.var 4) (.cons (.var 5) .nil)))) (.n 4) (.rng1 (.var 3)) .yes (.n 5) (.rng2 (.bin .add (.var 4) (.con (.int 1))) (.var 3)) .yes [4, 5] [5])
def l_told_frames_of_1 : Ss := (.cons (.asg (.n 3) (.call 8 (.cons (.var 2) .nil)))
    (.cons (.mut .extend (.var 1) (.cons c_told_frames_of_0 .nil))
    .nil))
def b_told_frames_of : Ss := (.cons (.asg (.n 1) (.lst .nil))
    (.cons (.for_ (.n 2) (.seq (.call 6 (.cons (.var 0) .nil))) l_told_frames_of_1)
    (.cons (.retv 1)
    .nil)))
def n_told_frames_of : List Str := ["posts", "found", "partition", "many", "one", "other"]
abbrev f_told_frames_of : Nat := 11
def F_told_frames_of : Fn := ⟨1, 6, true, b_told_frames_of⟩
/-- is_told_of(posts, value): 0 posts 1 value 2 partition 3 one 4 other 5 many -/
def b_is_told_of : Ss := (.cons (.ifs (.or_ (.not_ (.call 3 (.cons (.var 1) (.cons (.con (.int 3)) .nil)))) (.not_ (.call 5 (.cons (.var 0) (.cons (.idx (.var 1) (.con (.int 0))) .nil)))))
    (.cons (.ret (.con (.bl false)))
    .nil)
    .nil)
    (.cons (.asg (.t (.cons (.n 2) (.cons (.n 3) (.cons (.n 4) .nil)))) (.var 1))
    (.cons (.asg (.n 5) (.call 8 (.cons (.var 2) .nil)))
    (.cons (.frz [5] (.ret (.and_ (.call 2 (.cons (.var 3) (.cons (.var 5) .nil))) (.and_ (.call 2 (.cons (.var 4) (.cons (.var 5) .nil))) (.cmp .lt (.var 3) (.var 4))))))
    .nil))))
def n_is_told_of : List Str := ["posts", "value", "partition", "one", "other", "many"]
abbrev f_is_told_of : Nat := 12
def F_is_told_of : Fn := ⟨2, 6, true, b_is_told_of⟩
/-- told_frames(posts): 0 posts -/
def b_told_frames : Ss := (.cons (.expr (.call 10 (.cons (.var 0) .nil)))
    (.cons (.ret (.call 11 (.cons (.var 0) .nil)))
    .nil))
def n_told_frames : List Str := ["posts"]
abbrev f_told_frames : Nat := 13
def F_told_frames : Fn := ⟨1, 1, true, b_told_frames⟩
/-- is_told(posts, value): 0 posts 1 value -/
def b_is_told : Ss := (.cons (.expr (.call 10 (.cons (.var 0) .nil)))
    (.cons (.ret (.call 12 (.cons (.var 0) (.cons (.var 1) .nil))))
    .nil))
def n_is_told : List Str := ["posts", "value"]
abbrev f_is_told : Nat := 14
def F_is_told : Fn := ⟨2, 2, true, b_is_told⟩
/-- joins_by(told, partition): 0 told 1 partition 2 laid 3 one 4 other 5 together -/
def b_joins_by : Ss := (.cons (.asg (.t (.cons (.n 2) (.cons (.n 3) (.cons (.n 4) .nil)))) (.var 0))
    (.cons (.asg (.n 5) (.call 9 (.cons (.var 2) (.cons (.var 1) .nil))))
    (.cons (.ret (.cmp .eq (.idx (.var 5) (.mth .index (.var 2) (.cons (.var 3) .nil))) (.idx (.var 5) (.mth .index (.var 2) (.cons (.var 4) .nil)))))
    .nil)))
def n_joins_by : List Str := ["told", "partition", "laid", "one", "other", "together"]
abbrev f_joins_by : Nat := 15
def F_joins_by : Fn := ⟨2, 6, true, b_joins_by⟩
/-- joins(told, partition): 0 told 1 partition 2 posts -/
def c_joins_0 : E := (.lc (.call 12 (.cons (.var 2) (.cons (.var 0) .nil))) (.n 2) (.rng2 (.glo 0) (.bin .add (.glo 1) (.con (.int 1)))) .yes [2])
def b_joins : Ss := (.cons (.ifs (.not_ (.blt .any (.cons c_joins_0 .nil)))
    (.cons (.raise 2 (.cons (.var 0) .nil))
    .nil)
    .nil)
    (.cons (.ifs (.not_ (.call 5 (.cons (.blt .len (.cons (.idx (.var 0) (.con (.int 0))) .nil)) (.cons (.var 1) .nil))))
    (.cons (.raise 1 (.cons (.var 1) .nil))
    .nil)
    .nil)
    (.cons (.ret (.call 15 (.cons (.var 0) (.cons (.var 1) .nil))))
    .nil)))
def n_joins : List Str := ["told", "partition", "posts"]
abbrev f_joins : Nat := 16
def F_joins : Fn := ⟨2, 3, true, b_joins⟩
/-- _law_cell(script, k): 0 script 1 k -/
def b_law_cell : Ss := (.cons (.ret (.ife (.cmp .lt (.var 1) (.blt .len (.cons (.var 0) .nil))) (.idx (.var 0) (.var 1)) (.bin .add (.bin .mul (.con (.int 8209)) (.var 1)) (.bin .mod (.blt .int (.cons (.blt .sum (.cons (.cutE (.var 0) .no (.yes (.con (.int 1)))) .nil)) .nil)) (.con (.int 1000003))))))
    .nil)
def n_law_cell : List Str := ["script", "k"]
abbrev f_law_cell : Nat := 17
def F_law_cell : Fn := ⟨2, 2, true, b_law_cell⟩
/-- _law_box(great): 0 great -/
def b_law_box : Ss := (.cons (.ret (.heap (.lst (.cons (.blt .abs (.cons (.var 0) .nil)) (.cons (.cmp .ge (.blt .abs (.cons (.var 0) .nil)) (.bin .pow (.con (.int 10)) (.con (.int 18)))) (.cons (.bin .mod (.blt .int (.cons (.blt .abs (.cons (.var 0) .nil)) .nil)) (.con (.int 2147483629))) (.cons (.con (.int 0)) .nil)))))))
    .nil)
def n_law_box : List Str := ["great"]
abbrev f_law_box : Nat := 18
def F_law_box : Fn := ⟨1, 1, false, b_law_box⟩
/-- _law_take(box, many): 0 box 1 many 2 digit 3 mixed -/
def b_law_take : Ss := (.cons (.ifs (.and_ (.idx (.var 0) (.con (.int 1))) (.cmp .gt (.idx (.var 0) (.con (.int 0))) (.con (.int 0))))
    (.cons (.asg (.n 2) (.bin .mod (.blt .int (.cons (.idx (.var 0) (.con (.int 0))) .nil)) (.var 1)))
    (.cons (.setx (.var 0) (.con (.int 0)) (.bin .fdiv (.idx (.var 0) (.con (.int 0))) (.var 1)))
    (.cons (.retv 2)
    .nil)))
    .nil)
    (.cons (.setx (.var 0) (.con (.int 3)) (.bin .add (.idx (.var 0) (.con (.int 3))) (.con (.int 1))))
    (.cons (.asg (.n 3) (.bin .mod (.blt .int (.cons (.bin .pow (.bin .add (.bin .add (.idx (.var 0) (.con (.int 2))) (.bin .mul (.con (.int 15485959)) (.idx (.var 0) (.con (.int 3))))) (.con (.int 179425223))) (.con (.int 5))) .nil)) (.con (.int 2147483647))))
    (.cons (.ret (.bin .mod (.blt .int (.cons (.bin .fdiv (.bin .mod (.blt .int (.cons (.bin .pow (.bin .add (.bin .mul (.var 3) (.con (.int 48271))) (.bin .mul (.con (.int 8209)) (.idx (.var 0) (.con (.int 3))))) (.con (.int 3))) .nil)) (.con (.int 2147483587))) (.con (.int 64))) .nil)) (.var 1)))
    .nil))))
def n_law_take : List Str := ["box", "many", "digit", "mixed"]
abbrev f_law_take : Nat := 19
def F_law_take : Fn := ⟨2, 4, true, b_law_take⟩
/-- _law_mixed(box, items): 0 box 1 items 2 left 3 found 4 k -/
def l_law_mixed_0 : Ss := (.cons (.mut .append (.var 3) (.cons (.mth .pop1 (.var 2) (.cons (.call 19 (.cons (.var 0) (.cons (.blt .len (.cons (.var 2) .nil)) .nil))) .nil)) .nil))
    .nil)
def b_law_mixed : Ss := (.cons (.par [2, 3] (.cons (.heap (.blt .list (.cons (.var 1) .nil))) (.cons (.lst .nil) .nil)))
    (.cons (.for_ (.n 4) (.rng1 (.blt .len (.cons (.var 1) .nil))) l_law_mixed_0)
    (.cons (.retv 3)
    .nil)))
def n_law_mixed : List Str := ["box", "items", "left", "found", "k"]
abbrev f_law_mixed : Nat := 20
def F_law_mixed : Fn := ⟨2, 5, false, b_law_mixed⟩
/-- _law_same(given, due): 0 given 1 due 2 k -/
def c_law_same_0 : E := (.lc (.var 2) (.n 2) (.rng1 (.blt .len (.cons (.var 1) .nil))) (.cmp .ne (.cutE (.var 0) (.yes (.var 2)) (.yes (.bin .add (.var 2) (.con (.int 1))))) (.idx (.var 1) (.var 2))) [2])
def c_law_same_1 : E := (.lc (.var 2) (.n 2) (.rng1 (.blt .len (.cons (.var 1) .nil))) (.not_ (.call 21 (.cons (.idx (.var 0) (.var 2)) (.cons (.idx (.var 1) (.var 2)) .nil)))) [2])
def b_law_same : Ss := (.cons (.ifs (.or_ (.cmp .is_ (.var 1) (.con .non)) (.blt (.isi [1]) (.cons (.var 1) .nil)))
    (.cons (.ret (.ife (.cmp .is_ (.var 1) (.con .non)) (.cmp .is_ (.var 0) (.con .non)) (.and_ (.blt (.isi [1]) (.cons (.var 0) .nil)) (.cmp .eq (.cmp .is_ (.var 0) (.con (.bl true))) (.cmp .is_ (.var 1) (.con (.bl true)))))))
    .nil)
    .nil)
    (.cons (.ifs (.blt (.isi [0]) (.cons (.var 1) .nil))
    (.cons (.ret (.and_ (.blt (.isi [0]) (.cons (.var 0) .nil)) (.and_ (.not_ (.blt (.isi [1]) (.cons (.var 0) .nil))) (.cmp .eq (.bin .sub (.blt .int (.cons (.var 0) .nil)) (.var 1)) (.con (.int 0))))))
    .nil)
    .nil)
    (.cons (.ifs (.blt (.isi [2]) (.cons (.var 1) .nil))
    (.cons (.ret (.and_ (.blt (.isi [2]) (.cons (.var 0) .nil)) (.and_ (.cmp .eq (.blt .len (.cons (.var 0) .nil)) (.blt .len (.cons (.var 1) .nil))) (.cmp .eq c_law_same_0 (.lst .nil)))))
    .nil)
    .nil)
    (.cons (.ifs (.or_ (.cmp .ne (.blt (.isi [3]) (.cons (.var 0) .nil)) (.blt (.isi [3]) (.cons (.var 1) .nil))) (.cmp .ne (.blt (.isi [4]) (.cons (.var 0) .nil)) (.blt (.isi [4]) (.cons (.var 1) .nil))))
    (.cons (.ret (.con (.bl false)))
    .nil)
    .nil)
    (.cons (.ifs (.not_ (.blt (.isi [3, 4]) (.cons (.var 1) .nil)))
    (.cons (.ret (.cmp .eq (.blt .repr (.cons (.var 0) .nil)) (.blt .repr (.cons (.var 1) .nil))))
    .nil)
    .nil)
    (.cons (.ret (.and_ (.cmp .eq (.blt .len (.cons (.var 0) .nil)) (.blt .len (.cons (.var 1) .nil))) (.cmp .eq c_law_same_1 (.lst .nil))))
    .nil))))))
def n_law_same : List Str := ["given", "due", "k"]
abbrev f_law_same : Nat := 21
def F_law_same : Fn := ⟨2, 3, true, b_law_same⟩
/-- _law_is_int(value): 0 value -/
def b_law_is_int : Ss := (.cons (.ret (.and_ (.blt (.isi [0]) (.cons (.var 0) .nil)) (.not_ (.blt (.isi [1]) (.cons (.var 0) .nil)))))
    .nil)
def n_law_is_int : List Str := ["value"]
abbrev f_law_is_int : Nat := 22
def F_law_is_int : Fn := ⟨1, 1, true, b_law_is_int⟩
/-- _law_label(items): 0 items 1 names 2 item -/
def l_law_label_0 : Ss := (.cons (.setx (.var 1) (.var 2) (.mth .get2 (.var 1) (.cons (.var 2) (.cons (.blt .len (.cons (.var 1) .nil)) .nil))))
    .nil)
def c_law_label_1 : E := (.lc (.idx (.var 1) (.var 2)) (.n 2) (.seq (.var 0)) .yes [2])
def b_law_label : Ss := (.cons (.asg (.n 1) (.dsp .nil .nil))
    (.cons (.for_ (.n 2) (.seq (.var 0)) l_law_label_0)
    (.cons (.ret (.blt .tuple (.cons c_law_label_1 .nil)))
    .nil)))
def n_law_label : List Str := ["items", "names", "item"]
abbrev f_law_label : Nat := 23
def F_law_label : Fn := ⟨1, 3, true, b_law_label⟩
/-- _law_merge(labels, a, b): 0 labels 1 a 2 b 3 label -/
def c_law_merge_0 : E := (.lc (.ife (.cmp .eq (.var 3) (.idx (.var 0) (.var 2))) (.idx (.var 0) (.var 1)) (.var 3)) (.n 3) (.seq (.var 0)) .yes [3])
def b_law_merge : Ss := (.cons (.ret (.ife (.cmp .eq (.idx (.var 0) (.var 1)) (.idx (.var 0) (.var 2))) (.var 0) (.call 23 (.cons c_law_merge_0 .nil))))
    .nil)
def n_law_merge : List Str := ["labels", "a", "b", "label"]
abbrev f_law_merge : Nat := 24
def F_law_merge : Fn := ⟨3, 4, true, b_law_merge⟩
/-- _law_partitions(many): 0 many 1 found 2 k 3 longer 4 some 5 label -/
def c_law_partitions_0 : E := (.lc (.bin .add (.var 4) (.tup (.cons (.var 5) .nil))) (.n 5) (.rng1 (.bin .add (.blt .max1 (.cons (.bin .add (.var 4) (.tup (.cons (.neg (.con (.int 1))) .nil))) .nil)) (.con (.int 2)))) .yes [5])
def l_law_partitions_1 : Ss := (.cons (.asg (.n 3) (.bin .add (.var 3) c_law_partitions_0))
    .nil)
def l_law_partitions_2 : Ss := (.cons (.asg (.n 3) (.lst .nil))
    (.cons (.frz [1] (.for_ (.n 4) (.seq (.var 1)) l_law_partitions_1))
    (.cons (.frz [3] (.asg (.n 1) (.var 3)))
    .nil)))
def b_law_partitions : Ss := (.cons (.asg (.n 1) (.lst (.cons (.tup .nil) .nil)))
    (.cons (.for_ (.n 2) (.rng1 (.var 0)) l_law_partitions_2)
    (.cons (.ret (.blt .sorted (.cons (.var 1) .nil)))
    .nil)))
def n_law_partitions : List Str := ["many", "found", "k", "longer", "some", "label"]
abbrev f_law_partitions : Nat := 25
def F_law_partitions : Fn := ⟨1, 6, true, b_law_partitions⟩
/-- _law_united(one, other): 0 one 1 other 2 found 3 j 4 i -/
def l_law_united_0 : Ss := (.cons (.ifs (.or_ (.cmp .eq (.idx (.var 0) (.var 4)) (.idx (.var 0) (.var 3))) (.cmp .eq (.idx (.var 1) (.var 4)) (.idx (.var 1) (.var 3))))
    (.cons (.frz [2] (.asg (.n 2) (.call 24 (.cons (.var 2) (.cons (.var 4) (.cons (.var 3) .nil))))))
    .nil)
    .nil)
    .nil)
def l_law_united_1 : Ss := (.cons (.for_ (.n 4) (.rng1 (.var 3)) l_law_united_0)
    .nil)
def b_law_united : Ss := (.cons (.asg (.n 2) (.ofIt true (.rng1 (.blt .len (.cons (.var 0) .nil)))))
    (.cons (.for_ (.n 3) (.rng1 (.blt .len (.cons (.var 0) .nil))) l_law_united_1)
    (.cons (.retv 2)
    .nil)))
def n_law_united : List Str := ["one", "other", "found", "j", "i"]
abbrev f_law_united : Nat := 26
def F_law_united : Fn := ⟨2, 5, true, b_law_united⟩
/-- _law_told_frames(posts): 0 posts 1 found 2 partition 3 i 4 j -/
def c_law_told_frames_0 : E := (.lc (.tup (.cons (.var 2) (.cons (.var 3) (.cons (.var 4) .nil)))) (.n 4) (.rng2 (.bin .add (.var 3) (.con (.int 1))) (.bin .add (.blt .max1 (.cons (.var 2) .nil)) (.con (.int 1)))) .yes [4])
def l_law_told_frames_1 : Ss := (.cons (.asg (.n 1) (.bin .add (.var 1) c_law_told_frames_0))
    .nil)
def l_law_told_frames_2 : Ss := (.cons (.for_ (.n 3) (.rng1 (.bin .add (.blt .max1 (.cons (.var 2) .nil)) (.con (.int 1)))) l_law_told_frames_1)
    .nil)
def b_law_told_frames : Ss := (.cons (.asg (.n 1) (.lst .nil))
    (.cons (.for_ (.n 2) (.seq (.call 25 (.cons (.var 0) .nil))) l_law_told_frames_2)
    (.cons (.retv 1)
    .nil)))
def n_law_told_frames : List Str := ["posts", "found", "partition", "i", "j"]
abbrev f_law_told_frames : Nat := 27
def F_law_told_frames : Fn := ⟨1, 5, true, b_law_told_frames⟩
/-- _law_joins(told, partition): 0 told 1 partition 2 united -/
def b_law_joins : Ss := (.cons (.asg (.n 2) (.call 26 (.cons (.idx (.var 0) (.con (.int 0))) (.cons (.var 1) .nil))))
    (.cons (.ret (.cmp .eq (.idx (.var 2) (.mth .index (.idx (.var 0) (.con (.int 0))) (.cons (.idx (.var 0) (.con (.int 1))) .nil))) (.idx (.var 2) (.mth .index (.idx (.var 0) (.con (.int 0))) (.cons (.idx (.var 0) (.con (.int 2))) .nil)))))
    .nil))
def n_law_joins : List Str := ["told", "partition", "united"]
abbrev f_law_joins : Nat := 28
def F_law_joins : Fn := ⟨2, 3, true, b_law_joins⟩
/-- _law_asked(which, args, turn): 0 which 1 args 2 turn 3 e -/
def b_law_asked : Ss := (.cons (.try_ (.cons (.ifs (.cmp .eq (.var 0) (.con (.int 0)))
    (.cons (.ret (.lst (.cons (.con (.str "told")) (.cons (.ife (.cmp .eq (.var 2) (.con (.int 0))) (.heap (.call 13 (.cons (.idx (.var 1) (.con (.int 0))) .nil))) (.heap (.callk 13 .nil (.cons (.idx (.var 1) (.con (.int 0))) .nil) [0]))) .nil))))
    .nil)
    .nil)
    (.cons (.ifs (.cmp .eq (.var 0) (.con (.int 1)))
    (.cons (.ret (.lst (.cons (.con (.str "told")) (.cons (.ife (.cmp .eq (.var 2) (.con (.int 0))) (.call 14 (.cons (.idx (.var 1) (.con (.int 0))) (.cons (.idx (.var 1) (.con (.int 1))) .nil))) (.callk 14 .nil (.cons (.idx (.var 1) (.con (.int 1))) (.cons (.idx (.var 1) (.con (.int 0))) .nil)) [1, 0])) .nil))))
    .nil)
    .nil)
    (.cons (.ret (.lst (.cons (.con (.str "told")) (.cons (.ife (.cmp .eq (.var 2) (.con (.int 0))) (.call 16 (.cons (.idx (.var 1) (.con (.int 0))) (.cons (.idx (.var 1) (.con (.int 1))) .nil))) (.callk 16 .nil (.cons (.idx (.var 1) (.con (.int 1))) (.cons (.idx (.var 1) (.con (.int 0))) .nil)) [1, 0])) .nil))))
    .nil))) (.cons 0 (some 3) (.cons (.ret (.lst (.cons (.con (.str "many")) (.cons (.fld "given") .nil))))
    .nil) (.cons 2 (some 3) (.cons (.ret (.lst (.cons (.con (.str "told frame")) (.cons (.fld "given") .nil))))
    .nil) (.cons 1 (some 3) (.cons (.ret (.lst (.cons (.con (.str "partition")) (.cons (.fld "given") .nil))))
    .nil) .nil))))
    .nil)
def n_law_asked : List Str := ["which", "args", "turn", "e"]
abbrev f_law_asked : Nat := 29
def F_law_asked : Fn := ⟨3, 4, true, b_law_asked⟩
/-- _law_near(box, told): 0 box 1 told 2 partition 3 one 4 other 5 high 6 longer 7 found 8 label -/
def c_law_near_0 : E := (.lc (.bin .add (.var 8) (.con (.int 1))) (.n 8) (.seq (.var 2)) .yes [8])
def c_law_near_1 : E := (.lc (.bin .sub (.var 5) (.var 8)) (.n 8) (.seq (.var 2)) .yes [8])
def b_law_near : Ss := (.cons (.asg (.t (.cons (.n 2) (.cons (.n 3) (.cons (.n 4) .nil)))) (.var 1))
    (.cons (.asg (.t (.cons (.n 5) (.cons (.n 6) .nil))) (.tup (.cons (.blt .max1 (.cons (.var 2) .nil)) (.cons (.bin .add (.var 2) (.tup (.cons (.con (.int 0)) .nil))) .nil))))
    (.cons (.asg (.n 7) (.lst (.cons (.var 1) (.cons (.blt .list (.cons (.var 1) .nil)) (.cons (.tup (.cons (.blt .list (.cons (.var 2) .nil)) (.cons (.var 3) (.cons (.var 4) .nil)))) (.cons (.tup (.cons (.var 2) (.cons (.var 4) (.cons (.var 3) .nil)))) (.cons (.tup (.cons (.var 2) (.cons (.var 3) (.cons (.var 3) .nil)))) (.cons (.tup (.cons (.var 2) (.cons (.var 3) (.cons (.bin .add (.var 5) (.con (.int 1))) .nil)))) (.cons (.tup (.cons (.var 2) (.cons (.neg (.con (.int 1))) (.cons (.var 4) .nil)))) .nil)))))))))
    (.cons (.frz [6] (.asg (.n 7) (.bin .add (.var 7) (.lst (.cons (.tup (.cons (.var 2) (.cons (.var 3) .nil))) (.cons (.bin .add (.var 1) (.tup (.cons (.con (.int 0)) .nil))) (.cons (.tup (.cons (.var 2) (.cons (.cmp .eq (.var 3) (.con (.int 1))) (.cons (.var 4) .nil)))) (.cons (.tup (.cons (.var 2) (.cons (.var 3) (.cons (.con .non) .nil)))) (.cons (.tup (.cons (.var 2) (.cons (.blt .str (.cons (.var 3) .nil)) (.cons (.var 4) .nil)))) (.cons (.tup (.cons (.var 6) (.cons (.var 3) (.cons (.var 4) .nil)))) .nil))))))))))
    (.cons (.asg (.n 7) (.bin .add (.var 7) (.lst (.cons (.tup (.cons (.cutE (.var 2) .no (.yes (.neg (.con (.int 1))))) (.cons (.var 3) (.cons (.var 4) .nil)))) (.cons (.tup (.cons (.rev (.var 2)) (.cons (.var 3) (.cons (.var 4) .nil)))) (.cons (.tup (.cons (.blt .tuple (.cons c_law_near_0 .nil)) (.cons (.bin .add (.var 3) (.con (.int 1))) (.cons (.bin .add (.var 4) (.con (.int 1))) .nil)))) (.cons (.con .non) (.cons (.con (.int 7)) (.cons (.con (.str "")) (.cons (.dsp .nil .nil) (.cons (.tup .nil) .nil)))))))))))
    (.cons (.asg (.n 7) (.bin .add (.var 7) (.lst (.cons (.tup (.cons (.blt .tuple (.cons c_law_near_1 .nil)) (.cons (.var 3) (.cons (.var 4) .nil)))) (.cons (.tup (.cons (.con .non) (.cons (.var 3) (.cons (.var 4) .nil)))) (.cons (.tup (.cons (.var 2) (.cons (.lst (.cons (.var 3) .nil)) (.cons (.var 4) .nil)))) (.cons (.tup (.cons (.bin .add (.cutE (.var 2) .no (.yes (.neg (.con (.int 1))))) (.tup (.cons (.bin .add (.var 5) (.con (.int 2))) .nil))) (.cons (.var 3) (.cons (.var 4) .nil)))) .nil)))))))
    (.cons (.frz [7] (.ret (.cutE (.call 20 (.cons (.var 0) (.cons (.var 7) .nil))) .no (.yes (.con (.int 10))))))
    .nil)))))))
def n_law_near : List Str := ["box", "told", "partition", "one", "other", "high", "longer", "found", "label"]
abbrev f_law_near : Nat := 30
def F_law_near : Fn := ⟨2, 9, true, b_law_near⟩
/-- _law_is_partition(value, many): 0 value 1 many 2 label -/
def c_law_is_partition_0 : E := (.lc (.var 2) (.n 2) (.seq (.var 0)) (.not_ (.call 22 (.cons (.var 2) .nil))) [2])
def b_law_is_partition : Ss := (.cons (.ifs (.or_ (.not_ (.blt (.isi [4]) (.cons (.var 0) .nil))) (.or_ (.cmp .ne (.blt .len (.cons (.var 0) .nil)) (.var 1)) (.cmp .ne c_law_is_partition_0 (.lst .nil))))
    (.cons (.ret (.con (.bl false)))
    .nil)
    .nil)
    (.cons (.ret (.cmp .eq (.call 23 (.cons (.var 0) .nil)) (.var 0)))
    .nil))
def n_law_is_partition : List Str := ["value", "many", "label"]
abbrev f_law_is_partition : Nat := 31
def F_law_is_partition : Fn := ⟨2, 3, true, b_law_is_partition⟩
/-- _law_is_told(value, posts): 0 value 1 posts -/
def b_law_is_told : Ss := (.cons (.ifs (.or_ (.not_ (.blt (.isi [4]) (.cons (.var 0) .nil))) (.or_ (.cmp .ne (.blt .len (.cons (.var 0) .nil)) (.con (.int 3))) (.or_ (.not_ (.call 31 (.cons (.idx (.var 0) (.con (.int 0))) (.cons (.var 1) .nil)))) (.or_ (.not_ (.call 22 (.cons (.idx (.var 0) (.con (.int 1))) .nil))) (.not_ (.call 22 (.cons (.idx (.var 0) (.con (.int 2))) .nil)))))))
    (.cons (.ret (.con (.bl false)))
    .nil)
    .nil)
    (.cons (.ret (.chain3 .le .lt .le (.con (.int 0)) (.idx (.var 0) (.con (.int 1))) (.idx (.var 0) (.con (.int 2))) (.blt .max1 (.cons (.idx (.var 0) (.con (.int 0))) .nil))))
    .nil))
def n_law_is_told : List Str := ["value", "posts"]
abbrev f_law_is_told : Nat := 32
def F_law_is_told : Fn := ⟨2, 2, true, b_law_is_told⟩
/-- _law_posts_right(box, posts, turn, held): 0 box 1 posts 2 turn 3 held 4 every 5 partitions 6 first 7 second 8 rows 9 told 10 row 11 k 12 partition 13 due 14 item 15 i 16 j 17 value -/
def c_law_posts_right_0 : E := (.lc (.call 29 (.cons (.con (.int 2)) (.cons (.lst (.cons (.var 9) (.cons (.var 12) .nil))) (.cons (.bin .mod (.blt .int (.cons (.bin .add (.var 2) (.var 11)) .nil)) (.con (.int 2))) .nil)))) (.t (.cons (.n 11) (.cons (.n 12) .nil))) (.enum (.var 5)) .yes [11, 12])
def c_law_posts_right_1 : E := (.lc (.call 28 (.cons (.var 9) (.cons (.var 12) .nil))) (.n 12) (.seq (.var 5)) .yes [12])
def c_law_posts_right_2 : E := (.lc (.lst (.cons (.con (.str "told")) (.cons (.var 14) .nil))) (.n 14) (.seq (.var 13)) .yes [14])
def l_law_posts_right_3 : Ss := (.cons (.ifs (.and_ (.idx (.var 13) (.var 15)) (.and_ (.not_ (.idx (.var 13) (.var 16))) (.cmp .eq (.call 26 (.cons (.idx (.var 5) (.var 15)) (.cons (.idx (.var 5) (.var 16)) .nil))) (.idx (.var 5) (.var 16)))))
    (.cons (.ret (.con (.bl false)))
    .nil)
    .nil)
    .nil)
def l_law_posts_right_4 : Ss := (.cons (.for_ (.n 16) (.rng1 (.blt .len (.cons (.var 5) .nil))) l_law_posts_right_3)
    .nil)
def l_law_posts_right_5 : Ss := (.cons (.frz [2] (.ifs (.not_ (.call 21 (.cons (.call 29 (.cons (.con (.int 1)) (.cons (.lst (.cons (.var 1) (.cons (.var 17) .nil))) (.cons (.var 2) .nil)))) (.cons (.lst (.cons (.con (.str "told")) (.cons (.call 32 (.cons (.var 17) (.cons (.var 1) .nil))) .nil))) .nil))))
    (.cons (.ret (.con (.bl false)))
    .nil)
    .nil))
    (.cons (.asg (.n 2) (.bin .sub (.con (.int 1)) (.var 2)))
    .nil))
def l_law_posts_right_6 : Ss := (.cons (.asg (.n 10) c_law_posts_right_0)
    (.cons (.asg (.n 13) c_law_posts_right_1)
    (.cons (.frz [10] (.ifs (.or_ (.not_ (.call 21 (.cons (.var 10) (.cons c_law_posts_right_2 .nil)))) (.or_ (.cmp .in_ (.var 13) (.var 8)) (.or_ (.idx (.var 13) (.neg (.con (.int 1)))) (.not_ (.idx (.var 13) (.con (.int 0)))))))
    (.cons (.ret (.con (.bl false)))
    .nil)
    .nil))
    (.cons (.for_ (.n 15) (.rng1 (.blt .len (.cons (.var 5) .nil))) l_law_posts_right_4)
    (.cons (.frz [13] (.mut .append (.var 8) (.cons (.var 13) .nil)))
    (.cons (.for_ (.n 17) (.seq (.call 30 (.cons (.var 0) (.cons (.var 9) .nil)))) l_law_posts_right_5)
    .nil))))))
def b_law_posts_right : Ss := (.cons (.par [4, 5] (.cons (.call 27 (.cons (.var 1) .nil)) (.cons (.call 25 (.cons (.var 1) .nil)) .nil)))
    (.cons (.frz [2] (.par [6, 7] (.cons (.call 29 (.cons (.con (.int 0)) (.cons (.lst (.cons (.var 1) .nil)) (.cons (.var 2) .nil)))) (.cons (.call 29 (.cons (.con (.int 0)) (.cons (.lst (.cons (.var 1) .nil)) (.cons (.bin .sub (.con (.int 1)) (.var 2)) .nil)))) .nil))))
    (.cons (.frz [4, 6, 7] (.ifs (.or_ (.not_ (.call 21 (.cons (.lst (.cons (.var 6) (.cons (.var 7) .nil))) (.cons (.lst (.cons (.lst (.cons (.con (.str "told")) (.cons (.var 4) .nil))) (.cons (.lst (.cons (.con (.str "told")) (.cons (.var 4) .nil))) .nil))) .nil)))) (.cmp .ne (.blt .len (.cons (.var 4) .nil)) (.idx (.lst (.cons (.con (.int 1)) (.cons (.con (.int 6)) (.cons (.con (.int 31)) .nil)))) (.bin .sub (.var 1) (.con (.int 2))))))
    (.cons (.ret (.con (.bl false)))
    .nil)
    .nil))
    (.cons (.mut .append (.var 3) (.cons (.lst (.cons (.idx (.var 6) (.con (.int 1))) (.cons (.blt .list (.cons (.var 4) .nil)) .nil))) .nil))
    (.cons (.mut .insert (.idx (.var 7) (.con (.int 1))) (.cons (.con (.int 0)) (.cons (.tup .nil) .nil)))
    (.cons (.mut .clear (.idx (.var 7) (.con (.int 1))) .nil)
    (.cons (.asg (.n 8) (.lst .nil))
    (.cons (.frz [4] (.for_ (.n 9) (.seq (.ife (.cmp .lt (.var 1) (.con (.int 4))) (.var 4) (.cutE (.call 20 (.cons (.var 0) (.cons (.var 4) .nil))) .no (.yes (.con (.int 12)))))) l_law_posts_right_6))
    (.cons (.ret (.con (.bl true)))
    .nil)))))))))
def n_law_posts_right : List Str := ["box", "posts", "turn", "held", "every", "partitions", "first", "second", "rows", "told", "row", "k", "partition", "due", "item", "i", "j", "value"]
abbrev f_law_posts_right : Nat := 33
def F_law_posts_right : Fn := ⟨4, 18, false, b_law_posts_right⟩
/-- _law_refused(box, turn): 0 box 1 turn 2 counts 3 odd 4 wrong 5 asks 6 k 7 which 8 args 9 word 10 at 11 told 12 bad -/
def l_law_refused_0 : Ss := (.cons (.mut .append (.var 5) (.cons (.lst (.cons (.con (.int 2)) (.cons (.lst (.cons (.tup (.cons (.tup (.cons (.con (.int 0)) (.cons (.con (.int 1)) (.cons (.con (.int 1)) .nil)))) (.cons (.con (.int 0)) (.cons (.con (.int 1)) .nil)))) (.cons (.idx (.var 4) (.call 19 (.cons (.var 0) (.cons (.con (.int 14)) .nil)))) .nil))) (.cons (.con (.str "partition")) (.cons (.con (.int 1)) .nil))))) .nil))
    (.cons (.mut .append (.var 5) (.cons (.lst (.cons (.con (.int 2)) (.cons (.lst (.cons (.idx (.var 3) (.call 19 (.cons (.var 0) (.cons (.con (.int 13)) .nil)))) (.cons (.tup (.cons (.con (.int 0)) (.cons (.con (.int 1)) .nil))) .nil))) (.cons (.con (.str "told frame")) (.cons (.con (.int 0)) .nil))))) .nil))
    .nil))
def l_law_refused_1 : Ss := (.cons (.frz [1] (.par [11, 12] (.cons (.call 29 (.cons (.var 7) (.cons (.var 8) (.cons (.var 1) .nil)))) (.cons (.idx (.var 8) (.var 10)) .nil))))
    (.cons (.ifs (.blt (.isi [3]) (.cons (.var 12) .nil))
    (.cons (.mut .insert (.var 12) (.cons (.con (.int 0)) (.cons (.con (.str "more")) .nil)))
    .nil)
    .nil)
    (.cons (.frz [12] (.ifs (.or_ (.cmp .ne (.idx (.var 11) (.con (.int 0))) (.var 9)) (.not_ (.call 21 (.cons (.idx (.var 11) (.con (.int 1))) (.cons (.var 12) .nil)))))
    (.cons (.ret (.con (.bl false)))
    .nil)
    .nil))
    (.cons (.asg (.n 1) (.bin .sub (.con (.int 1)) (.var 1)))
    .nil))))
def b_law_refused : Ss := (.cons (.asg (.n 2) (.lst (.cons (.con (.int 0)) (.cons (.con (.int 1)) (.cons (.con (.int 5)) (.cons (.neg (.con (.int 2))) (.cons (.con (.bl true)) (.cons (.con .non) (.cons (.con (.str "2")) (.cons (.heap (.lst (.cons (.con (.int 2)) .nil))) (.cons (.tup (.cons (.con (.int 3)) .nil)) (.cons (.bin .pow (.con (.int 10)) (.con (.int 20))) .nil))))))))))))
    (.cons (.asg (.n 3) (.lst (.cons (.con .non) (.cons (.con (.int 7)) (.cons (.heap (.lst (.cons (.tup (.cons (.con (.int 0)) (.cons (.con (.int 1)) .nil))) (.cons (.con (.int 0)) (.cons (.con (.int 1)) .nil))))) (.cons (.tup (.cons (.lst (.cons (.con (.int 0)) (.cons (.con (.int 1)) .nil))) (.cons (.con (.int 0)) (.cons (.con (.int 1)) .nil)))) (.cons (.tup (.cons (.tup (.cons (.con (.int 0)) (.cons (.con (.int 1)) .nil))) (.cons (.con (.int 1)) (.cons (.con (.int 0)) .nil)))) (.cons (.tup (.cons (.tup (.cons (.con (.int 0)) (.cons (.con (.int 1)) .nil))) (.cons (.con (.int 0)) (.cons (.con (.int 0)) .nil)))) (.cons (.tup (.cons (.tup (.cons (.con (.int 0)) (.cons (.con (.int 0)) .nil))) (.cons (.con (.int 0)) (.cons (.con (.int 1)) .nil)))) (.cons (.tup (.cons (.tup (.cons (.con (.int 0)) (.cons (.con (.int 1)) .nil))) (.cons (.con (.int 0)) .nil))) (.cons (.tup (.cons (.tup (.cons (.con (.int 0)) .nil)) (.cons (.con (.int 0)) (.cons (.con (.int 1)) .nil)))) (.cons (.tup (.cons (.tup (.cons (.con (.int 0)) (.cons (.con (.int 1)) (.cons (.con (.int 2)) (.cons (.con (.int 3)) (.cons (.con (.int 4)) .nil)))))) (.cons (.con (.int 0)) (.cons (.con (.int 1)) .nil)))) (.cons (.con (.str "")) (.cons (.dsp (.cons (.con (.str "a")) .nil) (.cons (.con (.int 1)) .nil)) (.cons (.heap (.lst .nil)) .nil)))))))))))))))
    (.cons (.asg (.n 4) (.lst (.cons (.con .non) (.cons (.con (.int 7)) (.cons (.heap (.lst (.cons (.con (.int 0)) (.cons (.con (.int 1)) (.cons (.con (.int 2)) .nil))))) (.cons (.tup (.cons (.con (.int 0)) (.cons (.con (.int 1)) .nil))) (.cons (.tup (.cons (.con (.int 0)) (.cons (.con (.int 1)) (.cons (.con (.int 3)) .nil)))) (.cons (.tup (.cons (.con (.int 1)) (.cons (.con (.int 0)) (.cons (.con (.int 0)) .nil)))) (.cons (.tup (.cons (.con (.int 0)) (.cons (.con (.int 1)) (.cons (.con (.int 2)) (.cons (.con (.int 3)) .nil))))) (.cons (.tup (.cons (.con (.int 0)) (.cons (.con (.int 0)) (.cons (.neg (.con (.int 1))) .nil)))) (.cons (.tup (.cons (.con (.int 0)) (.cons (.con (.bl true)) (.cons (.con (.int 1)) .nil)))) (.cons (.tup (.cons (.con (.int 0)) (.cons (.con .non) (.cons (.con (.int 0)) .nil)))) (.cons (.con (.str "")) (.cons (.dsp (.cons (.con (.str "a")) .nil) (.cons (.con (.int 1)) .nil)) (.cons (.heap (.lst .nil)) (.cons (.tup .nil) .nil))))))))))))))))
    (.cons (.asg (.n 5) (.lst (.cons (.lst (.cons (.con (.int 0)) (.cons (.lst (.cons (.idx (.var 2) (.call 19 (.cons (.var 0) (.cons (.con (.int 10)) .nil)))) .nil)) (.cons (.con (.str "many")) (.cons (.con (.int 0)) .nil))))) (.cons (.lst (.cons (.con (.int 1)) (.cons (.lst (.cons (.idx (.var 2) (.call 19 (.cons (.var 0) (.cons (.con (.int 10)) .nil)))) (.cons (.tup (.cons (.tup (.cons (.con (.int 0)) (.cons (.con (.int 1)) .nil))) (.cons (.con (.int 0)) (.cons (.con (.int 1)) .nil)))) .nil))) (.cons (.con (.str "many")) (.cons (.con (.int 0)) .nil))))) (.cons (.lst (.cons (.con (.int 2)) (.cons (.lst (.cons (.idx (.var 3) (.call 19 (.cons (.var 0) (.cons (.con (.int 13)) .nil)))) (.cons (.lst (.cons (.con (.int 7)) .nil)) .nil))) (.cons (.con (.str "told frame")) (.cons (.con (.int 0)) .nil))))) .nil)))))
    (.cons (.for_ (.n 6) (.rng1 (.con (.int 3))) l_law_refused_0)
    (.cons (.frz [5] (.for_ (.t (.cons (.n 7) (.cons (.n 8) (.cons (.n 9) (.cons (.n 10) .nil))))) (.seq (.var 5)) l_law_refused_1))
    (.cons (.ret (.con (.bl true)))
    .nil)))))))
def n_law_refused : List Str := ["box", "turn", "counts", "odd", "wrong", "asks", "k", "which", "args", "word", "at", "told", "bad"]
abbrev f_law_refused : Nat := 34
def F_law_refused : Fn := ⟨2, 13, false, b_law_refused⟩
/-- law(script): 0 script 1 held 2 k 3 box 4 turn 5 posts 6 told 7 due -/
def l_law_0 : Ss := (.cons (.frz [1, 3, 4] (.ifs (.not_ (.call 33 (.cons (.var 3) (.cons (.var 5) (.cons (.var 4) (.cons (.var 1) .nil))))))
    (.cons (.ret (.con (.bl false)))
    .nil)
    .nil))
    (.cons (.asg (.n 4) (.bin .sub (.con (.int 1)) (.var 4)))
    .nil))
def l_law_1 : Ss := (.cons (.asg (.n 3) (.call 18 (.cons (.call 17 (.cons (.var 0) (.cons (.var 2) .nil))) .nil)))
    (.cons (.frz [3] (.asg (.n 4) (.call 19 (.cons (.var 3) (.cons (.con (.int 2)) .nil)))))
    (.cons (.frz [3] (.for_ (.n 5) (.seq (.call 20 (.cons (.var 3) (.cons (.lst (.cons (.con (.int 2)) (.cons (.con (.int 3)) (.cons (.con (.int 4)) .nil)))) .nil)))) l_law_0))
    (.cons (.frz [3, 4] (.ifs (.not_ (.call 34 (.cons (.var 3) (.cons (.var 4) .nil))))
    (.cons (.ret (.con (.bl false)))
    .nil)
    .nil))
    .nil))))
def c_law_2 : E := (.lc (.con (.int 1)) (.t (.cons (.n 6) (.cons (.n 7) .nil))) (.seq (.var 1)) (.not_ (.call 21 (.cons (.var 6) (.cons (.var 7) .nil)))) [6, 7])
def b_law : Ss := (.cons (.asg (.n 1) (.heap (.lst .nil)))
    (.cons (.for_ (.n 2) (.rng1 (.blt .max2 (.cons (.con (.int 1)) (.cons (.blt .min2 (.cons (.con (.int 2)) (.cons (.blt .len (.cons (.var 0) .nil)) .nil))) .nil)))) l_law_1)
    (.cons (.ret (.cmp .eq c_law_2 (.lst .nil)))
    .nil)))
def n_law : List Str := ["script", "held", "k", "box", "turn", "posts", "told", "due"]
abbrev f_law : Nat := 35
def F_law : Fn := ⟨1, 8, false, b_law⟩
def tbl : Nat → Option Fn
  | 0 => some F_is_integer
  | 1 => some F_is_within
  | 2 => some F_is_index
  | 3 => some F_is_tuple
  | 4 => some F_relabeled
  | 5 => some F_is_partition_of
  | 6 => some F_partitions_of
  | 7 => some F_lots_of
  | 8 => some F_count_lots
  | 9 => some F_united_of
  | 10 => some F_check_posts
  | 11 => some F_told_frames_of
  | 12 => some F_is_told_of
  | 13 => some F_told_frames
  | 14 => some F_is_told
  | 15 => some F_joins_by
  | 16 => some F_joins
  | 17 => some F_law_cell
  | 18 => some F_law_box
  | 19 => some F_law_take
  | 20 => some F_law_mixed
  | 21 => some F_law_same
  | 22 => some F_law_is_int
  | 23 => some F_law_label
  | 24 => some F_law_merge
  | 25 => some F_law_partitions
  | 26 => some F_law_united
  | 27 => some F_law_told_frames
  | 28 => some F_law_joins
  | 29 => some F_law_asked
  | 30 => some F_law_near
  | 31 => some F_law_is_partition
  | 32 => some F_law_is_told
  | 33 => some F_law_posts_right
  | 34 => some F_law_refused
  | 35 => some F_law
  | _ => none
def cons : List (Str × D) := [("LEAST_POSTS", (.int 2)), ("MOST_POSTS", (.int 4))]
def gl : Nat → Option D
  | 0 => some (.int 2)
  | 1 => some (.int 4)
  | _ => none
-- classes: 0 InvalidMany 1 InvalidPartition 2 InvalidTold
def nz (k : Nat) : Nat := if k < 3 then k else 0
def T : Pk := ⟨tbl, gl, fun a b => nz a == nz b, fun k => if k < 3 then some "given" else none, 100000⟩
def kw : Nat → List (Nat × List Str × List Nat)
  | 13 => [(0, ["posts"], [0])]
  | 14 => [(0, ["value", "posts"], [1, 0])]
  | 16 => [(0, ["partition", "told"], [1, 0])]
  | _ => []
end K13

set_option maxHeartbeats 8000000
namespace K13
open PySem PySem.Spec PyProof.Rows L2 Rw
abbrev pw : Program := PySem.Challenge.pw_relywide_k13_told_frames_and_what_they_j
def top (i : Nat) : Stmt := pw.main.body.getD i (.Pass ⟨0, 0, 0, 0⟩)
def iniOf (s : Stmt) : Stmt := match s with
  | .ClassDef _ _ _ b _ _ _ _ _ _ _ => b.getD 0 (.Pass ⟨0, 0, 0, 0⟩)
  | _ => .Pass ⟨0, 0, 0, 0⟩
def d_is_integer : DefE := ⟨"is_integer", ["value"], top 6, n_is_integer⟩
def d_is_within : DefE := ⟨"is_within", ["value", "low", "high"], top 7, n_is_within⟩
def d_is_index : DefE := ⟨"is_index", ["value", "many"], top 8, n_is_index⟩
def d_is_tuple : DefE := ⟨"is_tuple", ["value", "many"], top 9, n_is_tuple⟩
def d_relabeled : DefE := ⟨"relabeled", ["labels"], top 11, n_relabeled⟩
def d_is_partition_of : DefE := ⟨"is_partition_of", ["many", "value"], top 13, n_is_partition_of⟩
def d_partitions_of : DefE := ⟨"partitions_of", ["many"], top 14, n_partitions_of⟩
def d_lots_of : DefE := ⟨"lots_of", ["partition"], top 15, n_lots_of⟩
def d_count_lots : DefE := ⟨"count_lots", ["partition"], top 16, n_count_lots⟩
def d_united_of : DefE := ⟨"united_of", ["one", "other"], top 17, n_united_of⟩
def d_check_posts : DefE := ⟨"check_posts", ["posts"], top 21, n_check_posts⟩
def d_told_frames_of : DefE := ⟨"told_frames_of", ["posts"], top 22, n_told_frames_of⟩
def d_is_told_of : DefE := ⟨"is_told_of", ["posts", "value"], top 23, n_is_told_of⟩
def d_told_frames : DefE := ⟨"told_frames", ["posts"], top 24, n_told_frames⟩
def d_is_told : DefE := ⟨"is_told", ["posts", "value"], top 25, n_is_told⟩
def d_joins_by : DefE := ⟨"joins_by", ["told", "partition"], top 26, n_joins_by⟩
def d_joins : DefE := ⟨"joins", ["told", "partition"], top 27, n_joins⟩
def d_law_cell : DefE := ⟨"_law_cell", ["script", "k"], top 29, n_law_cell⟩
def d_law_box : DefE := ⟨"_law_box", ["great"], top 30, n_law_box⟩
def d_law_take : DefE := ⟨"_law_take", ["box", "many"], top 31, n_law_take⟩
def d_law_mixed : DefE := ⟨"_law_mixed", ["box", "items"], top 32, n_law_mixed⟩
def d_law_same : DefE := ⟨"_law_same", ["given", "due"], top 33, n_law_same⟩
def d_law_is_int : DefE := ⟨"_law_is_int", ["value"], top 34, n_law_is_int⟩
def d_law_label : DefE := ⟨"_law_label", ["items"], top 35, n_law_label⟩
def d_law_merge : DefE := ⟨"_law_merge", ["labels", "a", "b"], top 36, n_law_merge⟩
def d_law_partitions : DefE := ⟨"_law_partitions", ["many"], top 37, n_law_partitions⟩
def d_law_united : DefE := ⟨"_law_united", ["one", "other"], top 38, n_law_united⟩
def d_law_told_frames : DefE := ⟨"_law_told_frames", ["posts"], top 39, n_law_told_frames⟩
def d_law_joins : DefE := ⟨"_law_joins", ["told", "partition"], top 40, n_law_joins⟩
def d_law_asked : DefE := ⟨"_law_asked", ["which", "args", "turn"], top 41, n_law_asked⟩
def d_law_near : DefE := ⟨"_law_near", ["box", "told"], top 42, n_law_near⟩
def d_law_is_partition : DefE := ⟨"_law_is_partition", ["value", "many"], top 43, n_law_is_partition⟩
def d_law_is_told : DefE := ⟨"_law_is_told", ["value", "posts"], top 44, n_law_is_told⟩
def d_law_posts_right : DefE := ⟨"_law_posts_right", ["box", "posts", "turn", "held"], top 45, n_law_posts_right⟩
def d_law_refused : DefE := ⟨"_law_refused", ["box", "turn"], top 46, n_law_refused⟩
def d_law : DefE := ⟨"law", ["script"], top 47, n_law⟩
def defs : List DefE := [d_is_integer, d_is_within, d_is_index, d_is_tuple, d_relabeled, d_is_partition_of, d_partitions_of, d_lots_of, d_count_lots, d_united_of, d_check_posts, d_told_frames_of, d_is_told_of, d_told_frames, d_is_told, d_joins_by, d_joins, d_law_cell, d_law_box, d_law_take, d_law_mixed, d_law_same, d_law_is_int, d_law_label, d_law_merge, d_law_partitions, d_law_united, d_law_told_frames, d_law_joins, d_law_asked, d_law_near, d_law_is_partition, d_law_is_told, d_law_posts_right, d_law_refused, d_law]
def cls : List ClsE := [⟨"InvalidMany", "InvalidMany.__init__", iniOf (top 2)⟩, ⟨"InvalidPartition", "InvalidPartition.__init__", iniOf (top 3)⟩, ⟨"InvalidTold", "InvalidTold.__init__", iniOf (top 4)⟩]
def Z : Lw := ⟨T, defs, cls, "RelyError", "given", cons, kw⟩
theorem c_is_integer : Z.defB d_is_integer F_is_integer = true := by decide +kernel
theorem c_is_within : Z.defB d_is_within F_is_within = true := by decide +kernel
theorem c_is_index : Z.defB d_is_index F_is_index = true := by decide +kernel
theorem c_is_tuple : Z.defB d_is_tuple F_is_tuple = true := by decide +kernel
theorem c_relabeled : Z.defB d_relabeled F_relabeled = true := by decide +kernel
theorem c_is_partition_of : Z.defB d_is_partition_of F_is_partition_of = true := by decide +kernel
theorem c_partitions_of : Z.defB d_partitions_of F_partitions_of = true := by decide +kernel
theorem c_lots_of : Z.defB d_lots_of F_lots_of = true := by decide +kernel
theorem c_count_lots : Z.defB d_count_lots F_count_lots = true := by decide +kernel
theorem c_united_of : Z.defB d_united_of F_united_of = true := by decide +kernel
theorem c_check_posts : Z.defB d_check_posts F_check_posts = true := by decide +kernel
theorem c_told_frames_of : Z.defB d_told_frames_of F_told_frames_of = true := by decide +kernel
theorem c_is_told_of : Z.defB d_is_told_of F_is_told_of = true := by decide +kernel
theorem c_told_frames : Z.defB d_told_frames F_told_frames = true := by decide +kernel
theorem c_is_told : Z.defB d_is_told F_is_told = true := by decide +kernel
theorem c_joins_by : Z.defB d_joins_by F_joins_by = true := by decide +kernel
theorem c_joins : Z.defB d_joins F_joins = true := by decide +kernel
theorem c_law_cell : Z.defB d_law_cell F_law_cell = true := by decide +kernel
theorem c_law_box : Z.defB d_law_box F_law_box = true := by decide +kernel
theorem c_law_take : Z.defB d_law_take F_law_take = true := by decide +kernel
theorem c_law_mixed : Z.defB d_law_mixed F_law_mixed = true := by decide +kernel
theorem c_law_same : Z.defB d_law_same F_law_same = true := by decide +kernel
theorem c_law_is_int : Z.defB d_law_is_int F_law_is_int = true := by decide +kernel
theorem c_law_label : Z.defB d_law_label F_law_label = true := by decide +kernel
theorem c_law_merge : Z.defB d_law_merge F_law_merge = true := by decide +kernel
theorem c_law_partitions : Z.defB d_law_partitions F_law_partitions = true := by decide +kernel
theorem c_law_united : Z.defB d_law_united F_law_united = true := by decide +kernel
theorem c_law_told_frames : Z.defB d_law_told_frames F_law_told_frames = true := by decide +kernel
theorem c_law_joins : Z.defB d_law_joins F_law_joins = true := by decide +kernel
theorem c_law_asked : Z.defB d_law_asked F_law_asked = true := by decide +kernel
theorem c_law_near : Z.defB d_law_near F_law_near = true := by decide +kernel
theorem c_law_is_partition : Z.defB d_law_is_partition F_law_is_partition = true := by decide +kernel
theorem c_law_is_told : Z.defB d_law_is_told F_law_is_told = true := by decide +kernel
theorem c_law_posts_right : Z.defB d_law_posts_right F_law_posts_right = true := by decide +kernel
theorem c_law_refused : Z.defB d_law_refused F_law_refused = true := by decide +kernel
theorem c_law : Z.defB d_law F_law = true := by decide +kernel
theorem hd : ∀ i d, Z.defs[i]? = some d → ∃ F, Z.T.tbl i = some F ∧ Z.defB d F = true
  | 0, d, e => ⟨F_is_integer, rfl, by cases Option.some.inj (show some d_is_integer = some d from e); exact c_is_integer⟩
  | 1, d, e => ⟨F_is_within, rfl, by cases Option.some.inj (show some d_is_within = some d from e); exact c_is_within⟩
  | 2, d, e => ⟨F_is_index, rfl, by cases Option.some.inj (show some d_is_index = some d from e); exact c_is_index⟩
  | 3, d, e => ⟨F_is_tuple, rfl, by cases Option.some.inj (show some d_is_tuple = some d from e); exact c_is_tuple⟩
  | 4, d, e => ⟨F_relabeled, rfl, by cases Option.some.inj (show some d_relabeled = some d from e); exact c_relabeled⟩
  | 5, d, e => ⟨F_is_partition_of, rfl, by cases Option.some.inj (show some d_is_partition_of = some d from e); exact c_is_partition_of⟩
  | 6, d, e => ⟨F_partitions_of, rfl, by cases Option.some.inj (show some d_partitions_of = some d from e); exact c_partitions_of⟩
  | 7, d, e => ⟨F_lots_of, rfl, by cases Option.some.inj (show some d_lots_of = some d from e); exact c_lots_of⟩
  | 8, d, e => ⟨F_count_lots, rfl, by cases Option.some.inj (show some d_count_lots = some d from e); exact c_count_lots⟩
  | 9, d, e => ⟨F_united_of, rfl, by cases Option.some.inj (show some d_united_of = some d from e); exact c_united_of⟩
  | 10, d, e => ⟨F_check_posts, rfl, by cases Option.some.inj (show some d_check_posts = some d from e); exact c_check_posts⟩
  | 11, d, e => ⟨F_told_frames_of, rfl, by cases Option.some.inj (show some d_told_frames_of = some d from e); exact c_told_frames_of⟩
  | 12, d, e => ⟨F_is_told_of, rfl, by cases Option.some.inj (show some d_is_told_of = some d from e); exact c_is_told_of⟩
  | 13, d, e => ⟨F_told_frames, rfl, by cases Option.some.inj (show some d_told_frames = some d from e); exact c_told_frames⟩
  | 14, d, e => ⟨F_is_told, rfl, by cases Option.some.inj (show some d_is_told = some d from e); exact c_is_told⟩
  | 15, d, e => ⟨F_joins_by, rfl, by cases Option.some.inj (show some d_joins_by = some d from e); exact c_joins_by⟩
  | 16, d, e => ⟨F_joins, rfl, by cases Option.some.inj (show some d_joins = some d from e); exact c_joins⟩
  | 17, d, e => ⟨F_law_cell, rfl, by cases Option.some.inj (show some d_law_cell = some d from e); exact c_law_cell⟩
  | 18, d, e => ⟨F_law_box, rfl, by cases Option.some.inj (show some d_law_box = some d from e); exact c_law_box⟩
  | 19, d, e => ⟨F_law_take, rfl, by cases Option.some.inj (show some d_law_take = some d from e); exact c_law_take⟩
  | 20, d, e => ⟨F_law_mixed, rfl, by cases Option.some.inj (show some d_law_mixed = some d from e); exact c_law_mixed⟩
  | 21, d, e => ⟨F_law_same, rfl, by cases Option.some.inj (show some d_law_same = some d from e); exact c_law_same⟩
  | 22, d, e => ⟨F_law_is_int, rfl, by cases Option.some.inj (show some d_law_is_int = some d from e); exact c_law_is_int⟩
  | 23, d, e => ⟨F_law_label, rfl, by cases Option.some.inj (show some d_law_label = some d from e); exact c_law_label⟩
  | 24, d, e => ⟨F_law_merge, rfl, by cases Option.some.inj (show some d_law_merge = some d from e); exact c_law_merge⟩
  | 25, d, e => ⟨F_law_partitions, rfl, by cases Option.some.inj (show some d_law_partitions = some d from e); exact c_law_partitions⟩
  | 26, d, e => ⟨F_law_united, rfl, by cases Option.some.inj (show some d_law_united = some d from e); exact c_law_united⟩
  | 27, d, e => ⟨F_law_told_frames, rfl, by cases Option.some.inj (show some d_law_told_frames = some d from e); exact c_law_told_frames⟩
  | 28, d, e => ⟨F_law_joins, rfl, by cases Option.some.inj (show some d_law_joins = some d from e); exact c_law_joins⟩
  | 29, d, e => ⟨F_law_asked, rfl, by cases Option.some.inj (show some d_law_asked = some d from e); exact c_law_asked⟩
  | 30, d, e => ⟨F_law_near, rfl, by cases Option.some.inj (show some d_law_near = some d from e); exact c_law_near⟩
  | 31, d, e => ⟨F_law_is_partition, rfl, by cases Option.some.inj (show some d_law_is_partition = some d from e); exact c_law_is_partition⟩
  | 32, d, e => ⟨F_law_is_told, rfl, by cases Option.some.inj (show some d_law_is_told = some d from e); exact c_law_is_told⟩
  | 33, d, e => ⟨F_law_posts_right, rfl, by cases Option.some.inj (show some d_law_posts_right = some d from e); exact c_law_posts_right⟩
  | 34, d, e => ⟨F_law_refused, rfl, by cases Option.some.inj (show some d_law_refused = some d from e); exact c_law_refused⟩
  | 35, d, e => ⟨F_law, rfl, by cases Option.some.inj (show some d_law = some d from e); exact c_law⟩
  | n + 36, d, e => by cases (show (none : Option DefE) = some d from e)
theorem hi : Z.cls.all Z.iniT = true := by decide +kernel
theorem k_told_frames_0 (kV doc pm : Value) (an : Option Addr) (cdv ct : Value) (us ws : List Value) (h : (kwG 0 [0] us ws).length = 1) : bindArgs (PySem.W.fnOf d_told_frames.name d_told_frames.name (defArgs d_told_frames.st) (defBody d_told_frames.st) (defScope d_told_frames.st) .none kV doc pm an cdv ct) ⟨us, List.zip (["posts"] : List Str) ws⟩ = pure (List.zip (["posts"] : List Str) (kwG 0 [0] us ws)) := by
  have hu : us.length = 0 := by
    by_cases hu : us.length = 0
    · exact hu
    · rw [show kwG 0 [0] us ws = [] from if_neg hu] at h; cases h
  cases List.length_eq_zero_iff.mp hu
  cases ws with
  | nil => simp [kwG, permV] at h
  | cons w0 ws => 
  rfl
theorem k_is_told_0 (kV doc pm : Value) (an : Option Addr) (cdv ct : Value) (us ws : List Value) (h : (kwG 0 [1, 0] us ws).length = 2) : bindArgs (PySem.W.fnOf d_is_told.name d_is_told.name (defArgs d_is_told.st) (defBody d_is_told.st) (defScope d_is_told.st) .none kV doc pm an cdv ct) ⟨us, List.zip (["value", "posts"] : List Str) ws⟩ = pure (List.zip (["posts", "value"] : List Str) (kwG 0 [1, 0] us ws)) := by
  have hu : us.length = 0 := by
    by_cases hu : us.length = 0
    · exact hu
    · rw [show kwG 0 [1, 0] us ws = [] from if_neg hu] at h; cases h
  cases List.length_eq_zero_iff.mp hu
  cases ws with
  | nil => simp [kwG, permV] at h
  | cons w0 ws => 
  cases ws with
  | nil => simp [kwG, permV] at h
  | cons w1 ws => 
  rfl
theorem k_joins_0 (kV doc pm : Value) (an : Option Addr) (cdv ct : Value) (us ws : List Value) (h : (kwG 0 [1, 0] us ws).length = 2) : bindArgs (PySem.W.fnOf d_joins.name d_joins.name (defArgs d_joins.st) (defBody d_joins.st) (defScope d_joins.st) .none kV doc pm an cdv ct) ⟨us, List.zip (["partition", "told"] : List Str) ws⟩ = pure (List.zip (["told", "partition"] : List Str) (kwG 0 [1, 0] us ws)) := by
  have hu : us.length = 0 := by
    by_cases hu : us.length = 0
    · exact hu
    · rw [show kwG 0 [1, 0] us ws = [] from if_neg hu] at h; cases h
  cases List.length_eq_zero_iff.mp hu
  cases ws with
  | nil => simp [kwG, permV] at h
  | cons w0 ws => 
  cases ws with
  | nil => simp [kwG, permV] at h
  | cons w1 ws => 
  rfl
end K13

set_option maxHeartbeats 4000000
namespace K13
open Rw
theorem take_ok (n r : Nat) (m a c d : Int) (b : Bool) (h : Hp) (hr : h[r]? = some (boxC a b c d)) (hm : 0 < m ∧ m < 1073741824) (hc : 0 ≤ c ∧ c < 2147483648) (hd : 0 ≤ d ∧ d < 100000000000) :
   ∃ v a' d', callN T (n+1) f_law_take [.ref r, .int m] h = .ok (.int v, false, h.set r (boxC a' b c d')) ∧ 0 ≤ v ∧ v < m ∧ d ≤ d' ∧ d' ≤ d + 1 := by
  rw [callN_step (F := F_law_take) rfl rfl]
  have hs := fun xs => set_at hr (.lst xs)
  have md : ∀ x : Int, x ≠ 0 → ∀ y, evOp .mod (.int y) (.int x) = fun h => .ok (.int (y.fmod x), false, h) := fun x hx y => funext fun h => op_mod hx
  by_cases hb : b = true ∧ 0 < a
  · obtain ⟨rfl, ha⟩ := hb
    refine ⟨a.fmod m, a.fdiv m, d, ?_, (fmod_rng hm.1).1, (fmod_rng hm.1).2, by omega, by omega⟩
    simp [runFn, F_law_take, b_law_take, evSs, evS, evE, evEs, evIx_ref hr, ixOf, ha, op_mod (show m ≠ 0 by omega), op_fdiv (divOk_small hm.1 hm.2), rootVar, ownAt, setBox0 hr]
  · obtain ⟨e1, e2⟩ : evE (T.pg (callN T n)) none false (.and_ (.idx (.var 0) (.con (.int 1))) (.cmp .gt (.idx (.var 0) (.con (.int 0))) (.con (.int 0)))) [some ⟨.ref r, false⟩, some ⟨.int m, false⟩, none, none] h = .ok (.bl false, false, h) ∧ True := by
      refine ⟨?_, trivial⟩
      cases b with
      | false => simp [evE, evIx_ref hr, ixOf]
      | true =>
        have ha : ¬ 0 < a := fun z => hb ⟨rfl, z⟩
        simp [evE, evIx_ref hr, ixOf, ha]
    have q1 : (c + 15485959 * (d + 1) + 179425223).natAbs < 2 ^ 64 := by omega
    generalize hx : ((c + 15485959 * (d + 1) + 179425223) ^ 5).fmod 2147483647 = x
    have rx : 0 ≤ x ∧ x < 2147483647 := by rw [← hx]; exact fmod_rng (by decide)
    have q2 : (x * 48271 + 8209 * (d + 1)).natAbs < 2 ^ 64 := by omega
    refine ⟨((((x * 48271 + 8209 * (d + 1)) ^ 3).fmod 2147483587).fdiv 64).fmod m, a, d + 1, ?_, (fmod_rng hm.1).1, (fmod_rng hm.1).2, by omega, by omega⟩
    simp [runFn, F_law_take, b_law_take, evSs, evS, e1]
    simp [evE, evEs, evIx_ref hr, evIx_ref (hs _), ixOf, op_mod (show m ≠ 0 by omega), op_fdiv (divOk_small hm.1 hm.2), rootVar, ownAt, setBox3 hr, op_mul (mulOk_l (i := 15485959) (j := d + 1) (by decide)), op_mul (mulOk_l (i := 8209) (j := d + 1) (by decide)), op_mul (mulOk_r (i := x) (j := 48271) (by decide)), op_pow (powOk_of q1 (j := 5) (by decide) (by decide)), op_pow (powOk_of q2 (j := 3) (by decide) (by decide)), op_mod (show (2147483647 : Int) ≠ 0 by decide), op_mod (show (2147483587 : Int) ≠ 0 by decide), op_fdiv (divOk_small (m := 64) (by decide) (by decide)), hx]
theorem box_ok (n : Nat) (g : Int) (h : Hp) : ∃ a b c, callN T (n+1) f_law_box [.int g] h = .ok (.ref h.length, false, h ++ [boxC a b c 0]) ∧ 0 ≤ c ∧ c < 2147483648 := by
  rw [callN_step (F := F_law_box) rfl rfl]
  refine ⟨if g < 0 then -g else g, decide (10 ^ 18 ≤ if g < 0 then -g else g), (if g < 0 then -g else g).fmod 2147483629, ?_, (fmod_rng (by decide)).1, Int.lt_trans (fmod_rng (by decide)).2 (by decide)⟩
  simp [runFn, F_law_box, b_law_box, evSs, evS, evE, evEs, op_pow (powOk_of (i := 10) (j := 18) (by decide) (by decide) (by decide)), op_mod (show (2147483629 : Int) ≠ 0 by decide), maxLen]
theorem cell_ok (n : Nat) (ns : List Int) (k : Nat) (hk : k < 100) (hl : ns.length < 100) (h : Hp) : ∃ v, callN T (n+1) f_law_cell [.lst (ns.map D.int), .int k] h = .ok (.int v, false, h) := by
  have cl : ∀ l : List Int, clos (l.map D.int) = true := fun l => by induction l with
    | nil => rfl
    | cons i l ih => simp [clos, clo, ih]
  have key : ∃ v, callN T (n+1) f_law_cell [.lst (ns.map D.int), .int k] [] = .ok (.int v, false, []) := by
    have io : ∀ l : List Int, intsOf (l.map D.int) = some l := fun l => by induction l with
      | nil => rfl
      | cons i l ih => simp [intsOf, ih]
    rw [callN_pure (F := F_law_cell) rfl (by simp [F_law_cell, clos, clo, cl])]
    by_cases hk2 : k < ns.length
    · refine ⟨ns[k], ?_⟩
      have e : runFn (T.pg (callN T n)) F_law_cell [.lst (ns.map D.int), .int k] [] = .ok (.int ns[k], false, []) := by
        refine fn_rt rfl (env := [some ⟨.lst (ns.map D.int), false⟩, some ⟨.int k, false⟩]) rfl ?_
        refine ss_rt (s_ret ?_)
        have hkk : ((k : Int) < ns.length) := by omega
        simp [evE, evEs, hk2, hkk, ixOf_nat (show k < ns.length from hk2)]
      rw [e]; rfl
    · refine ⟨8209 * k + (ns.take 1).sum.fmod 1000003, ?_⟩
      have e : runFn (T.pg (callN T n)) F_law_cell [.lst (ns.map D.int), .int k] [] = .ok (.int (8209 * k + (ns.take 1).sum.fmod 1000003), false, []) := by
        refine fn_rt rfl (env := [some ⟨.lst (ns.map D.int), false⟩, some ⟨.int k, false⟩]) rfl ?_
        refine ss_rt (s_ret ?_)
        have hkk : ¬ ((k : Int) < ns.length) := by omega
        have hc : cut (ns.map D.int) none (some 1) = (ns.take 1).map D.int := by
          cases ns with
          | nil => rfl
          | cons i l =>
            have e : (min 1 ((l.length : Int) + 1)).toNat = 1 := by omega
            simp [cut, cutIx, e]
        have hs : ∀ g, evB .sum [.lst ((ns.map D.int).take 1)] g = .ok (.int (ns.take 1).sum, false, g) := fun g => by simp only [← List.map_take, evB, listOf, Option.bind_some, io]
        simp [evE, evEs, evO, hkk, hk2, op_mul (mulOk_l (i := 8209) (j := k) (by decide)), evCut, listOf, hc, hs, op_mod (show (1000003 : Int) ≠ 0 by decide)]
      rw [e]; rfl
  obtain ⟨v, e⟩ := key
  exact ⟨v, callN_any (F := F_law_cell) rfl (by simp [F_law_cell, clos, clo, cl]) rfl e⟩
theorem mixed_ok (n r : Nat) (xs : List D) (a c d : Int) (b : Bool) (h : Hp) (hr : h[r]? = some (boxC a b c d)) (hx : xs.length < 100000) (hc : 0 ≤ c ∧ c < 2147483648) (hd : 0 ≤ d ∧ d + xs.length < 100000000000) :
   ∃ ys a' d' h', callN T (n+2) f_law_mixed [.ref r, .lst xs] h = .ok (.lst ys, true, h') ∧ ys.Perm xs ∧ h'[r]? = some (boxC a' b c d') ∧ d ≤ d' ∧ d' ≤ d + xs.length ∧ Kp r h h' := by
  rw [callN_step (F := F_law_mixed) rfl rfl]
  have hlen : h.length ≠ r := fun z => by have := lt_of_at hr; omega
  have lp := forGo_all (chk := stays .non (rng 0 xs.length)) (t := .n 4) (b := evSs (T.pg (callN T (n + 1))) none l_law_mixed_0)
    (ds := rng 0 xs.length) (env := [some ⟨.ref r, false⟩, some ⟨.lst xs, false⟩, some ⟨.ref h.length, false⟩, some ⟨.lst [], true⟩, none]) (h := h ++ [.lst xs])
    (fun pre env h1 => ∃ ys ls a' d' z, env = [some ⟨.ref r, false⟩, some ⟨.lst xs, false⟩, some ⟨.ref h.length, false⟩, some ⟨.lst ys, true⟩, z] ∧ h1[h.length]? = some (.lst ls) ∧ h1[r]? = some (boxC a' b c d') ∧ d ≤ d' ∧ d' ≤ d + pre.length ∧ Kp r h h1 ∧ (ys ++ ls).Perm xs ∧ ys.length = pre.length)
    (fun _ _ _ => rfl) ⟨[], xs, a, d, none, rfl, by simp, by rw [List.getElem?_append_left (lt_of_at hr)]; exact hr, by omega, by simp, Kp.app _, .refl _, rfl⟩
    (fun pre e post hsplit env1 h1 hI => by
      obtain ⟨ys, ls, a', d', z, rfl, hl, hb, hd1, hd2, kp, pm, hy⟩ := hI
      refine ⟨rfl, [some ⟨.ref r, false⟩, some ⟨.lst xs, false⟩, some ⟨.ref h.length, false⟩, some ⟨.lst ys, true⟩, some ⟨e, false⟩], ?_⟩
      have hlen2 : pre.length + 1 + post.length = xs.length := by
        have := congrArg List.length hsplit
        simp [rng] at this
        omega
      have pl := pm.length_eq
      simp only [List.length_append] at pl
      have lsl : 0 < ls.length ∧ ls.length < 100000 := by omega
      obtain ⟨v, a2, d2, e1, v1, v2, v3, v4⟩ := take_ok n r ls.length a' c d' b h1 hb ⟨by omega, by omega⟩ hc ⟨by omega, by omega⟩
      obtain ⟨k, rfl⟩ : ∃ k : Nat, v = k := ⟨v.toNat, by omega⟩
      obtain ⟨x, hx⟩ : ∃ x, ls[k]? = some x := ⟨_, List.getElem?_eq_getElem (by omega)⟩
      have hl2 : (h1.set r (boxC a2 b c d2))[h.length]? = some (.lst ls) := by rw [List.getElem?_set_ne (Ne.symm hlen)]; exact hl
      have pe := perm_erase hx
      refine ⟨[some ⟨.ref r, false⟩, some ⟨.lst xs, false⟩, some ⟨.ref h.length, false⟩, some ⟨.lst (ys ++ [x]), true⟩, some ⟨e, false⟩], (h1.set r (boxC a2 b c d2)).set h.length (.lst (ls.eraseIdx k)), by simp [asgT], .inl ?_, ys ++ [x], ls.eraseIdx k, a2, d2, _, rfl, set_at hl2 _, ?_, by omega, by simp only [List.length_append, List.length_cons, List.length_nil]; omega, ?_, ?_, ?_⟩
      · have em : mtOk .pop1 (some 3) = true := rfl
        simp [l_law_mixed_0, evSs, evS, evE, evEs, rootVar, ownAt, contN, mtOk, Pk.pg, Mt.keeps, kindOf_ref hl, kindOf_ref hl2, v_len (seqOf_ref hl), e1, mth_pop hl2 hx (le_max (by omega)), evMut, Cont.d, lt_max (show ys.length < 100000 by omega)]
      · rw [List.getElem?_set_ne hlen]; exact set_at hb _
      · exact (kp.trans .set).new (Nat.le_refl _)
      · rw [List.append_assoc]
        exact ((List.Perm.refl ys).append pe).trans pm
      · simp [hy])
  obtain ⟨env', h', e1, ys, ls, a', d', z, rfl, hl, hb, hd1, hd2, kp, pm, hy⟩ := lp
  have hls : ls = [] := by
    have pl := pm.length_eq
    simp [rng] at hy
    simp only [List.length_append] at pl
    exact List.length_eq_zero_iff.mp (by omega)
  subst hls
  refine ⟨ys, a', d', h', ?_, by simpa using pm, hb, hd1, by simpa [rng] using hd2, kp⟩
  have w : ∀ env : Env, env[1]? = some (some ⟨.lst xs, false⟩) → ∀ h, evI (T.pg (callN T (n + 1))) none true (.rng1 (.blt .len (.cons (.var 1) .nil))) env h = .ok (.non, rng 0 xs.length, h) := fun env e h =>
    it_rng1 (i := (xs.length : Int)) (o := false) (by simp [evE, evEs, e]) (by omega) (by omega)
  refine fn_rt rfl (env := [some ⟨.ref r, false⟩, some ⟨.lst xs, false⟩, none, none, none]) rfl ?_
  refine (ss_nx (env1 := [some ⟨.ref r, false⟩, some ⟨.lst xs, false⟩, some ⟨.ref h.length, false⟩, some ⟨.lst [], true⟩, none]) (h1 := h ++ [.lst xs]) ?_).trans ?_
  · simp [evS, evE, evEs, evPar, setsE]
  · exact (ss_nx ((s_for (w _ rfl _)).trans e1)).trans (ss_rt (s_retv rfl))
/-- two lists alike, item by item -/
theorem same_lst (n : Nat) (g : D) (xs ys : List D) (h : Hp) (hg : seqOf h g = some xs) (hk : kindOf h g = some 3) (hl : xs.length = ys.length) (hz : ys.length < 100000) (hc : clos [g, .lst ys] = false)
    (hi : ∀ (k : Nat) (x y : D), xs[k]? = some x → ys[k]? = some y → callN T n f_law_same [x, y] h = .ok (.bl true, false, h)) : callN T (n+1) f_law_same [g, .lst ys] h = .ok (.bl true, false, h) := by
  rw [callN_step (F := F_law_same) rfl (by rw [hc]; rfl)]
  have ns : ∀ s, g ≠ .str s := fun s z => by rw [z] at hg; cases hg
  have ec : ∀ z, evE (T.pg (callN T n)) none false c_law_same_1 [some ⟨g, false⟩, some ⟨.lst ys, false⟩, z] h = .ok (.lst [], true, h) := fun z => by
    have q := e_lcIf (P := T.pg (callN T n)) (cx := none) (cap := false) (e := .var 2) (c := .not_ (.call 21 (.cons (.idx (.var 0) (.var 2)) (.cons (.idx (.var 1) (.var 2)) .nil)))) (t := .n 2) (w := .rng1 (.blt .len (.cons (.var 1) .nil))) (own := [2])
      (env := [some ⟨g, false⟩, some ⟨.lst ys, false⟩, z]) (h := h) (h1 := h) (src := .non) (xs := rng 0 ys.length) (g := fun d => d) (p := fun _ => false)
      (it_rng1 (i := (ys.length : Int)) (o := false) (by simp [evE, evEs]) (by omega) (by omega)) rfl (by rw [rng_len]; exact le_max (by omega)) fun d hd => by
        obtain ⟨k, hk2, rfl⟩ := rng_mem hd
        have ex : xs[k]? = some xs[k] := List.getElem?_eq_getElem (by omega)
        have ey : ys[k]? = some ys[k] := List.getElem?_eq_getElem hk2
        refine ⟨[some ⟨g, false⟩, some ⟨.lst ys, false⟩, some ⟨.int k, false⟩], false, rfl, ?_, fun z => by cases z⟩
        simp [evE, evEs, ix_at hg ex ns, ixOf_nat hk2, ey, Pk.pg, hi k _ _ ex ey]
    have e0 : ((rng 0 ys.length).filter fun _ => false).map (fun d => d) = [] := by simp
    rw [e0] at q
    exact q
  refine fn_rt rfl (env := [some ⟨g, false⟩, some ⟨.lst ys, false⟩, none]) rfl ?_
  refine (ss_nx (s_ifF (o := false) (h1 := h) (by simp [evE, evEs, isNone, evB, kindOf, isKind]) ss_nil)).trans ?_
  refine (ss_nx (s_ifF (o := false) (h1 := h) (by simp [evE, evEs, evB, kindOf, isKind]) ss_nil)).trans ?_
  refine (ss_nx (s_ifF (o := false) (h1 := h) (by simp [evE, evEs, evB, kindOf, isKind]) ss_nil)).trans ?_
  refine (ss_nx (s_ifF (o := false) (h1 := h) (by simp [evE, evEs, v_isi hk, v_isi (show kindOf h (.lst ys) = some 3 from rfl), isKind, cm_neD, eqv]) ss_nil)).trans ?_
  refine (ss_nx (s_ifF (o := false) (h1 := h) (by simp [evE, evEs, v_isi (show kindOf h (.lst ys) = some 3 from rfl), isKind]) ss_nil)).trans ?_
  refine ss_rt (s_ret ?_)
  refine e_andT (o := false) (h1 := h) ?_ (e_cmp (ec _) (show _ = R.ok (D.lst [], true, h) from rfl) cm_eqL0)
  simp [evE, evEs, v_len hg, hl]
end K13

set_option maxHeartbeats 4000000
namespace K13
open Rw
def pt2 : List D := [.tup [.int 0, .int 0], .tup [.int 0, .int 1]]
def t2_0 : D := .tup [.tup [.int 0, .int 1], .int 0, .int 1]
def u2_0 : List D := [.bl true, .bl false]
def tb2 : List (D × List D) := [(t2_0, u2_0)]
def en2 : List (List Bool) := [[true, false], [true, true]]
def ev2 : List D := tb2.map (·.1)
def pt3 : List D := [.tup [.int 0, .int 0, .int 0], .tup [.int 0, .int 0, .int 1], .tup [.int 0, .int 1, .int 0], .tup [.int 0, .int 1, .int 1], .tup [.int 0, .int 1, .int 2]]
def t3_0 : D := .tup [.tup [.int 0, .int 0, .int 1], .int 0, .int 1]
def u3_0 : List D := [.bl true, .bl false, .bl true, .bl true, .bl false]
def t3_1 : D := .tup [.tup [.int 0, .int 1, .int 0], .int 0, .int 1]
def u3_1 : List D := [.bl true, .bl true, .bl false, .bl true, .bl false]
def t3_2 : D := .tup [.tup [.int 0, .int 1, .int 1], .int 0, .int 1]
def u3_2 : List D := [.bl true, .bl true, .bl true, .bl false, .bl false]
def t3_3 : D := .tup [.tup [.int 0, .int 1, .int 2], .int 0, .int 1]
def u3_3 : List D := [.bl true, .bl true, .bl false, .bl false, .bl false]
def t3_4 : D := .tup [.tup [.int 0, .int 1, .int 2], .int 0, .int 2]
def u3_4 : List D := [.bl true, .bl false, .bl true, .bl false, .bl false]
def t3_5 : D := .tup [.tup [.int 0, .int 1, .int 2], .int 1, .int 2]
def u3_5 : List D := [.bl true, .bl false, .bl false, .bl true, .bl false]
def tb3 : List (D × List D) := [(t3_0, u3_0), (t3_1, u3_1), (t3_2, u3_2), (t3_3, u3_3), (t3_4, u3_4), (t3_5, u3_5)]
def en3 : List (List Bool) := [[true, false, false, false, false], [true, true, false, false, false], [true, false, true, false, false], [true, false, false, true, false], [true, true, true, true, true]]
def ev3 : List D := tb3.map (·.1)
def pt4 : List D := [.tup [.int 0, .int 0, .int 0, .int 0], .tup [.int 0, .int 0, .int 0, .int 1], .tup [.int 0, .int 0, .int 1, .int 0], .tup [.int 0, .int 0, .int 1, .int 1], .tup [.int 0, .int 0, .int 1, .int 2], .tup [.int 0, .int 1, .int 0, .int 0], .tup [.int 0, .int 1, .int 0, .int 1], .tup [.int 0, .int 1, .int 0, .int 2], .tup [.int 0, .int 1, .int 1, .int 0], .tup [.int 0, .int 1, .int 1, .int 1], .tup [.int 0, .int 1, .int 1, .int 2], .tup [.int 0, .int 1, .int 2, .int 0], .tup [.int 0, .int 1, .int 2, .int 1], .tup [.int 0, .int 1, .int 2, .int 2], .tup [.int 0, .int 1, .int 2, .int 3]]
def t4_0 : D := .tup [.tup [.int 0, .int 0, .int 0, .int 1], .int 0, .int 1]
def u4_0 : List D := [.bl true, .bl false, .bl true, .bl true, .bl false, .bl true, .bl true, .bl false, .bl true, .bl true, .bl false, .bl true, .bl true, .bl true, .bl false]
def t4_1 : D := .tup [.tup [.int 0, .int 0, .int 1, .int 0], .int 0, .int 1]
def u4_1 : List D := [.bl true, .bl true, .bl false, .bl true, .bl false, .bl true, .bl true, .bl true, .bl true, .bl true, .bl true, .bl false, .bl false, .bl true, .bl false]
def t4_2 : D := .tup [.tup [.int 0, .int 0, .int 1, .int 1], .int 0, .int 1]
def u4_2 : List D := [.bl true, .bl true, .bl true, .bl false, .bl false, .bl true, .bl true, .bl true, .bl true, .bl true, .bl true, .bl true, .bl true, .bl false, .bl false]
def t4_3 : D := .tup [.tup [.int 0, .int 0, .int 1, .int 2], .int 0, .int 1]
def u4_3 : List D := [.bl true, .bl true, .bl false, .bl false, .bl false, .bl true, .bl true, .bl true, .bl true, .bl true, .bl true, .bl false, .bl false, .bl false, .bl false]
def t4_4 : D := .tup [.tup [.int 0, .int 0, .int 1, .int 2], .int 0, .int 2]
def u4_4 : List D := [.bl true, .bl false, .bl true, .bl false, .bl false, .bl true, .bl true, .bl false, .bl true, .bl true, .bl false, .bl true, .bl true, .bl false, .bl false]
def t4_5 : D := .tup [.tup [.int 0, .int 0, .int 1, .int 2], .int 1, .int 2]
def u4_5 : List D := [.bl true, .bl false, .bl false, .bl true, .bl false, .bl true, .bl true, .bl false, .bl true, .bl true, .bl false, .bl false, .bl false, .bl true, .bl false]
def t4_6 : D := .tup [.tup [.int 0, .int 1, .int 0, .int 0], .int 0, .int 1]
def u4_6 : List D := [.bl true, .bl true, .bl true, .bl true, .bl true, .bl false, .bl true, .bl false, .bl true, .bl true, .bl true, .bl false, .bl true, .bl false, .bl false]
def t4_7 : D := .tup [.tup [.int 0, .int 1, .int 0, .int 1], .int 0, .int 1]
def u4_7 : List D := [.bl true, .bl true, .bl true, .bl true, .bl true, .bl true, .bl false, .bl false, .bl true, .bl true, .bl true, .bl true, .bl false, .bl true, .bl false]
def t4_8 : D := .tup [.tup [.int 0, .int 1, .int 0, .int 2], .int 0, .int 1]
def u4_8 : List D := [.bl true, .bl true, .bl true, .bl true, .bl true, .bl false, .bl false, .bl false, .bl true, .bl true, .bl true, .bl false, .bl false, .bl false, .bl false]
def t4_9 : D := .tup [.tup [.int 0, .int 1, .int 0, .int 2], .int 0, .int 2]
def u4_9 : List D := [.bl true, .bl false, .bl true, .bl true, .bl false, .bl true, .bl false, .bl false, .bl true, .bl true, .bl false, .bl true, .bl false, .bl true, .bl false]
def t4_10 : D := .tup [.tup [.int 0, .int 1, .int 0, .int 2], .int 1, .int 2]
def u4_10 : List D := [.bl true, .bl false, .bl true, .bl true, .bl false, .bl false, .bl true, .bl false, .bl true, .bl true, .bl false, .bl false, .bl true, .bl false, .bl false]
def t4_11 : D := .tup [.tup [.int 0, .int 1, .int 1, .int 0], .int 0, .int 1]
def u4_11 : List D := [.bl true, .bl true, .bl true, .bl true, .bl true, .bl true, .bl true, .bl true, .bl false, .bl true, .bl false, .bl false, .bl true, .bl true, .bl false]
def t4_12 : D := .tup [.tup [.int 0, .int 1, .int 1, .int 1], .int 0, .int 1]
def u4_12 : List D := [.bl true, .bl true, .bl true, .bl true, .bl true, .bl true, .bl true, .bl true, .bl true, .bl false, .bl false, .bl true, .bl false, .bl false, .bl false]
def t4_13 : D := .tup [.tup [.int 0, .int 1, .int 1, .int 2], .int 0, .int 1]
def u4_13 : List D := [.bl true, .bl true, .bl true, .bl true, .bl true, .bl true, .bl true, .bl true, .bl false, .bl false, .bl false, .bl false, .bl false, .bl false, .bl false]
def t4_14 : D := .tup [.tup [.int 0, .int 1, .int 1, .int 2], .int 0, .int 2]
def u4_14 : List D := [.bl true, .bl false, .bl true, .bl true, .bl false, .bl true, .bl true, .bl false, .bl true, .bl false, .bl false, .bl true, .bl false, .bl false, .bl false]
def t4_15 : D := .tup [.tup [.int 0, .int 1, .int 1, .int 2], .int 1, .int 2]
def u4_15 : List D := [.bl true, .bl false, .bl true, .bl true, .bl false, .bl true, .bl true, .bl false, .bl false, .bl true, .bl false, .bl false, .bl true, .bl true, .bl false]
def t4_16 : D := .tup [.tup [.int 0, .int 1, .int 2, .int 0], .int 0, .int 1]
def u4_16 : List D := [.bl true, .bl true, .bl true, .bl true, .bl true, .bl false, .bl true, .bl false, .bl false, .bl true, .bl false, .bl false, .bl true, .bl false, .bl false]
def t4_17 : D := .tup [.tup [.int 0, .int 1, .int 2, .int 0], .int 0, .int 2]
def u4_17 : List D := [.bl true, .bl true, .bl false, .bl true, .bl false, .bl true, .bl true, .bl true, .bl false, .bl true, .bl false, .bl false, .bl false, .bl true, .bl false]
def t4_18 : D := .tup [.tup [.int 0, .int 1, .int 2, .int 0], .int 1, .int 2]
def u4_18 : List D := [.bl true, .bl true, .bl false, .bl true, .bl false, .bl false, .bl true, .bl false, .bl true, .bl true, .bl true, .bl false, .bl false, .bl false, .bl false]
def t4_19 : D := .tup [.tup [.int 0, .int 1, .int 2, .int 1], .int 0, .int 1]
def u4_19 : List D := [.bl true, .bl true, .bl true, .bl true, .bl true, .bl true, .bl false, .bl false, .bl true, .bl false, .bl false, .bl true, .bl false, .bl false, .bl false]
def t4_20 : D := .tup [.tup [.int 0, .int 1, .int 2, .int 1], .int 0, .int 2]
def u4_20 : List D := [.bl true, .bl true, .bl false, .bl true, .bl false, .bl true, .bl true, .bl true, .bl true, .bl false, .bl false, .bl false, .bl false, .bl false, .bl false]
def t4_21 : D := .tup [.tup [.int 0, .int 1, .int 2, .int 1], .int 1, .int 2]
def u4_21 : List D := [.bl true, .bl true, .bl false, .bl true, .bl false, .bl true, .bl false, .bl false, .bl true, .bl true, .bl true, .bl false, .bl false, .bl true, .bl false]
def t4_22 : D := .tup [.tup [.int 0, .int 1, .int 2, .int 2], .int 0, .int 1]
def u4_22 : List D := [.bl true, .bl true, .bl true, .bl true, .bl true, .bl false, .bl true, .bl false, .bl true, .bl false, .bl false, .bl false, .bl false, .bl false, .bl false]
def t4_23 : D := .tup [.tup [.int 0, .int 1, .int 2, .int 2], .int 0, .int 2]
def u4_23 : List D := [.bl true, .bl true, .bl true, .bl false, .bl false, .bl true, .bl true, .bl true, .bl true, .bl false, .bl false, .bl true, .bl false, .bl false, .bl false]
def t4_24 : D := .tup [.tup [.int 0, .int 1, .int 2, .int 2], .int 1, .int 2]
def u4_24 : List D := [.bl true, .bl true, .bl true, .bl false, .bl false, .bl false, .bl true, .bl false, .bl true, .bl true, .bl true, .bl false, .bl true, .bl false, .bl false]
def t4_25 : D := .tup [.tup [.int 0, .int 1, .int 2, .int 3], .int 0, .int 1]
def u4_25 : List D := [.bl true, .bl true, .bl true, .bl true, .bl true, .bl false, .bl false, .bl false, .bl false, .bl false, .bl false, .bl false, .bl false, .bl false, .bl false]
def t4_26 : D := .tup [.tup [.int 0, .int 1, .int 2, .int 3], .int 0, .int 2]
def u4_26 : List D := [.bl true, .bl true, .bl false, .bl false, .bl false, .bl true, .bl true, .bl true, .bl false, .bl false, .bl false, .bl false, .bl false, .bl false, .bl false]
def t4_27 : D := .tup [.tup [.int 0, .int 1, .int 2, .int 3], .int 0, .int 3]
def u4_27 : List D := [.bl true, .bl false, .bl true, .bl false, .bl false, .bl true, .bl false, .bl false, .bl true, .bl false, .bl false, .bl true, .bl false, .bl false, .bl false]
def t4_28 : D := .tup [.tup [.int 0, .int 1, .int 2, .int 3], .int 1, .int 2]
def u4_28 : List D := [.bl true, .bl true, .bl false, .bl false, .bl false, .bl false, .bl false, .bl false, .bl true, .bl true, .bl true, .bl false, .bl false, .bl false, .bl false]
def t4_29 : D := .tup [.tup [.int 0, .int 1, .int 2, .int 3], .int 1, .int 3]
def u4_29 : List D := [.bl true, .bl false, .bl true, .bl false, .bl false, .bl false, .bl true, .bl false, .bl false, .bl true, .bl false, .bl false, .bl true, .bl false, .bl false]
def t4_30 : D := .tup [.tup [.int 0, .int 1, .int 2, .int 3], .int 2, .int 3]
def u4_30 : List D := [.bl true, .bl false, .bl false, .bl true, .bl false, .bl true, .bl false, .bl false, .bl false, .bl true, .bl false, .bl false, .bl false, .bl true, .bl false]
def tb4 : List (D × List D) := [(t4_0, u4_0), (t4_1, u4_1), (t4_2, u4_2), (t4_3, u4_3), (t4_4, u4_4), (t4_5, u4_5), (t4_6, u4_6), (t4_7, u4_7), (t4_8, u4_8), (t4_9, u4_9), (t4_10, u4_10), (t4_11, u4_11), (t4_12, u4_12), (t4_13, u4_13), (t4_14, u4_14), (t4_15, u4_15), (t4_16, u4_16), (t4_17, u4_17), (t4_18, u4_18), (t4_19, u4_19), (t4_20, u4_20), (t4_21, u4_21), (t4_22, u4_22), (t4_23, u4_23), (t4_24, u4_24), (t4_25, u4_25), (t4_26, u4_26), (t4_27, u4_27), (t4_28, u4_28), (t4_29, u4_29), (t4_30, u4_30)]
def en4 : List (List Bool) := [[true, false, false, false, false, false, false, false, false, false, false, false, false, false, false], [true, true, false, false, false, false, false, false, false, false, false, false, false, false, false], [true, false, true, false, false, false, false, false, false, false, false, false, false, false, false], [true, false, false, true, false, false, false, false, false, false, false, false, false, false, false], [true, true, true, true, true, false, false, false, false, false, false, false, false, false, false], [true, false, false, false, false, true, false, false, false, false, false, false, false, false, false], [true, false, false, false, false, false, true, false, false, false, false, false, false, false, false], [true, true, false, false, false, true, true, true, false, false, false, false, false, false, false], [true, false, false, false, false, false, false, false, true, false, false, false, false, false, false], [true, false, false, false, false, false, false, false, false, true, false, false, false, false, false], [true, true, false, false, false, false, false, false, true, true, true, false, false, false, false], [true, false, true, false, false, true, false, false, true, false, false, true, false, false, false], [true, false, true, false, false, false, true, false, false, true, false, false, true, false, false], [true, false, false, true, false, true, false, false, false, true, false, false, false, true, false], [true, true, true, true, true, true, true, true, true, true, true, true, true, true, true]]
def ev4 : List D := tb4.map (·.1)
theorem ef2 (h : Hp) : callN T 10 f_law_told_frames [.int 2] h = .ok (.lst ev2, true, h) := by kernel_rfl
theorem ef3 (h : Hp) : callN T 10 f_law_told_frames [.int 3] h = .ok (.lst ev3, true, h) := by kernel_rfl
theorem ef4 (h : Hp) : callN T 10 f_law_told_frames [.int 4] h = .ok (.lst ev4, true, h) := by kernel_rfl
theorem ep2 (h : Hp) : callN T 10 f_law_partitions [.int 2] h = .ok (.lst pt2, true, h) := by kernel_rfl
theorem ep3 (h : Hp) : callN T 10 f_law_partitions [.int 3] h = .ok (.lst pt3, true, h) := by kernel_rfl
theorem ep4 (h : Hp) : callN T 10 f_law_partitions [.int 4] h = .ok (.lst pt4, true, h) := by kernel_rfl
abbrev sT : D := .str "told"
theorem a2_0 (h : Hp) : callN T 10 f_law_asked [.int 0, .lst [.int 2], .int 0] h = .ok (.lst [sT, .ref h.length], true, h ++ [.lst ev2]) := by kernel_rfl
theorem a2_1 (h : Hp) : callN T 10 f_law_asked [.int 0, .lst [.int 2], .int 1] h = .ok (.lst [sT, .ref h.length], true, h ++ [.lst ev2]) := by kernel_rfl
theorem a3_0 (h : Hp) : callN T 10 f_law_asked [.int 0, .lst [.int 3], .int 0] h = .ok (.lst [sT, .ref h.length], true, h ++ [.lst ev3]) := by kernel_rfl
theorem a3_1 (h : Hp) : callN T 10 f_law_asked [.int 0, .lst [.int 3], .int 1] h = .ok (.lst [sT, .ref h.length], true, h ++ [.lst ev3]) := by kernel_rfl
theorem a4_0 (h : Hp) : callN T 10 f_law_asked [.int 0, .lst [.int 4], .int 0] h = .ok (.lst [sT, .ref h.length], true, h ++ [.lst ev4]) := by kernel_rfl
theorem a4_1 (h : Hp) : callN T 10 f_law_asked [.int 0, .lst [.int 4], .int 1] h = .ok (.lst [sT, .ref h.length], true, h ++ [.lst ev4]) := by kernel_rfl
end K13

set_option maxHeartbeats 4000000
namespace K13
open Rw
theorem joins_ok {p : Nat} {as : List D} {i j : Int} {b : D} {k : Bool} (hp : p = 2 ∨ p = 3 ∨ p = 4) (ha : as.length = p) (c1 : clos as = true) (c2 : clo b = true)
    (t2 : ∀ h, callN T 8 f_is_told_of [.int 2, .tup [.tup as, .int i, .int j]] h = .ok (.bl ((p : Int) == 2), false, h)) (t3 : ∀ h, callN T 8 f_is_told_of [.int 3, .tup [.tup as, .int i, .int j]] h = .ok (.bl ((p : Int) == 3), false, h))
    (t4 : ∀ h, callN T 8 f_is_told_of [.int 4, .tup [.tup as, .int i, .int j]] h = .ok (.bl ((p : Int) == 4), false, h)) (hb : ∀ h, callN T 8 f_is_partition_of [.int p, b] h = .ok (.bl true, false, h))
    (hj : ∀ h, callN T 8 f_joins_by [.tup [.tup as, .int i, .int j], b] h = .ok (.bl k, false, h)) (h : Hp) : callN T 9 f_joins [.tup [.tup as, .int i, .int j], b] h = .ok (.bl k, false, h) := by
  refine callN_run (F := F_joins) (h0 := []) rfl (by simp [F_joins, clos, clo, c1, c2]) rfl ?_ h
  refine fn_rt rfl (env := [some ⟨.tup [.tup as, .int i, .int j], false⟩, some ⟨b, false⟩, none]) rfl ?_
  have e0 : evE (T.pg (callN T 8)) none false c_joins_0 [some ⟨.tup [.tup as, .int i, .int j], false⟩, some ⟨b, false⟩, none] [] = .ok (.lst [.bl ((p : Int) == 2), .bl ((p : Int) == 3), .bl ((p : Int) == 4)], true, []) := by
    have w : evI (T.pg (callN T 8)) none false (.rng2 (.glo 0) (.bin .add (.glo 1) (.con (.int 1)))) [some ⟨.tup [.tup as, .int i, .int j], false⟩, some ⟨b, false⟩, none] [] = .ok (.non, [.int 2, .int 3, .int 4], []) :=
      it_rng2 (i := 2) (j := 5) (h1 := []) (o := false) (o2 := false) rfl rfl (by decide) (by decide) (by decide) (by decide)
    refine (e_lc (g := fun d => match d with | .int z => .bl ((p : Int) == z) | _ => .non) w rfl (by show 3 ≤ 100000; decide) fun d hd => ?_).trans rfl
    simp only [List.mem_cons, List.not_mem_nil, or_false] at hd
    rcases hd with rfl | rfl | rfl
    · exact ⟨_, false, rfl, e_call (es_cons' (e_var rfl rfl) (es_cons' (e_var rfl rfl) es_nil')) (t2 _)⟩
    · exact ⟨_, false, rfl, e_call (es_cons' (e_var rfl rfl) (es_cons' (e_var rfl rfl) es_nil')) (t3 _)⟩
    · exact ⟨_, false, rfl, e_call (es_cons' (e_var rfl rfl) (es_cons' (e_var rfl rfl) es_nil')) (t4 _)⟩
  have ea : evB .any [.lst [.bl ((p : Int) == 2), .bl ((p : Int) == 3), .bl ((p : Int) == 4)]] [] = .ok (.bl true, false, []) := by
    rcases hp with rfl | rfl | rfl <;> rfl
  refine (ss_nx (s_ifF (e_not (k := true) (e_blt (es_cons' e0 es_nil') ea)) ss_nil)).trans ?_
  refine (ss_nx (s_ifF (e_not (k := true) (e_call (es_cons' (e_blt (es_cons' (e_idx (e_var rfl rfl) e_con rfl) es_nil') (show evB .len [.tup as] [] = .ok (.int p, false, []) by rw [b_lenT, ha])) (es_cons' (e_var rfl rfl) es_nil')) (hb _))) ss_nil)).trans ?_
  exact ss_rt (s_ret (e_call (es_cons' (e_var rfl rfl) (es_cons' (e_var rfl rfl) es_nil')) (hj _)))
theorem asked2_ok {t b : D} {k : Bool} {s : Nat} (hs : s < 2) (c1 : clo t = true) (c2 : clo b = true) (hj : ∀ h, callN T 9 f_joins [t, b] h = .ok (.bl k, false, h)) (h : Hp) : callN T 10 f_law_asked [.int 2, .lst [t, b], .int s] h = .ok (.lst [sT, .bl k], true, h) := by
  refine callN_run (F := F_law_asked) (h0 := []) rfl (by simp [F_law_asked, clos, clo, c1, c2]) rfl ?_ h
  refine fn_rt rfl (env := [some ⟨.int 2, false⟩, some ⟨.lst [t, b], false⟩, some ⟨.int s, false⟩, none]) rfl (ss_rt (s_try_rt ?_))
  refine (ss_nx (s_ifF (e_cmp (e_var rfl rfl) e_con rfl) ss_nil)).trans ?_
  refine (ss_nx (s_ifF (e_cmp (e_var rfl rfl) e_con rfl) ss_nil)).trans ?_
  refine ss_rt (s_ret (e_lst (es_cons' e_con (es_cons' (d := .bl k) (o := false) (h1 := []) ?_ es_nil')) (by show 2 ≤ 100000; decide)))
  rcases (show s = 0 ∨ s = 1 by omega) with rfl | rfl
  · exact e_ifeT (e_cmp (e_var rfl rfl) e_con rfl) (e_call (es_cons' (e_idx (e_var rfl rfl) e_con rfl) (es_cons' (e_idx (e_var rfl rfl) e_con rfl) es_nil')) (hj _))
  · refine e_ifeF (e_cmp (e_var rfl rfl) e_con rfl) ?_
    simp [evE, evEs, permD, ixOf, Pk.pg]
    exact hj _
theorem asked1_ok {v : D} {k : Bool} {p s : Nat} (hs : s < 2) (c1 : clo v = true) (hc : ∀ h, callN T 8 f_check_posts [.int p] h = .ok (.non, false, h)) (hj : ∀ h, callN T 8 f_is_told_of [.int p, v] h = .ok (.bl k, false, h)) (h : Hp) :
    callN T 10 f_law_asked [.int 1, .lst [.int p, v], .int s] h = .ok (.lst [sT, .bl k], true, h) := by
  have ht : ∀ h, callN T 9 f_is_told [.int p, v] h = .ok (.bl k, false, h) := fun h => by
    refine callN_run (F := F_is_told) (h0 := []) rfl (by simp [F_is_told, clos, clo, c1]) rfl ?_ h
    refine fn_rt rfl (env := [some ⟨.int p, false⟩, some ⟨v, false⟩]) rfl ?_
    refine (ss_nx (env1 := [some ⟨.int p, false⟩, some ⟨v, false⟩]) (h1 := []) ?_).trans (ss_rt (s_ret (e_call (es_cons' (e_var rfl rfl) (es_cons' (e_var rfl rfl) es_nil')) (hj _))))
    simp [evS, evE, evEs, Pk.pg, hc]
  refine callN_run (F := F_law_asked) (h0 := []) rfl (by simp [F_law_asked, clos, clo, c1]) rfl ?_ h
  refine fn_rt rfl (env := [some ⟨.int 1, false⟩, some ⟨.lst [.int p, v], false⟩, some ⟨.int s, false⟩, none]) rfl (ss_rt (s_try_rt ?_))
  refine (ss_nx (s_ifF (e_cmp (e_var rfl rfl) e_con rfl) ss_nil)).trans ?_
  refine ss_rt (s_ifT (e_cmp (e_var rfl rfl) e_con rfl) ?_)
  refine ss_rt (s_ret (e_lst (es_cons' e_con (es_cons' (d := .bl k) (o := false) (h1 := []) ?_ es_nil')) (by show 2 ≤ 100000; decide)))
  rcases (show s = 0 ∨ s = 1 by omega) with rfl | rfl
  · exact e_ifeT (e_cmp (e_var rfl rfl) e_con rfl) (e_call (es_cons' (e_idx (e_var rfl rfl) e_con rfl) (es_cons' (e_idx (e_var rfl rfl) e_con rfl) es_nil')) (ht _))
  · refine e_ifeF (e_cmp (e_var rfl rfl) e_con rfl) ?_
    simp [evE, evEs, permD, ixOf, Pk.pg]
    exact ht _
end K13

set_option maxHeartbeats 4000000
namespace K13
open Rw
def rowD (u : List D) : List D := u.map fun d => .lst [sT, d]
def isB (r : RV) (k : D) : Bool := match r with
  | .ok (.bl b, false, _) => (match k with | .bl c => b == c | _ => false)
  | _ => false
theorem isB_ok {r : RV} {k : D} (h : isB r k = true) : ∃ b g, k = .bl b ∧ r = .ok (.bl b, false, g) := by
  unfold isB at h
  split at h
  · split at h
    · exact ⟨_, _, rfl, by rw [eq_of_beq h]⟩
    · cases h
  · cases h
/-- what a told frame of p posts joins, by the program and by the law -/
def chkJ (pt : List D) (q : D × List D) : Bool := (pt.zip q.2).all fun z => isB (callN T 8 f_joins_by [q.1, z.1] []) z.2 && isB (callN T 10 f_law_joins [q.1, z.1] []) z.2
def chkT (p : Int) (q : D × List D) : Bool := clo q.1 && isB (callN T 8 f_is_told_of [.int 2, q.1] []) (.bl (p == 2)) && isB (callN T 8 f_is_told_of [.int 3, q.1] []) (.bl (p == 3)) && isB (callN T 8 f_is_told_of [.int 4, q.1] []) (.bl (p == 4)) &&
  isB (callN T 10 f_law_same [.lst (rowD q.2), .lst (rowD q.2)] []) (.bl true) && isB (callN T 7 f_law_same [q.1, q.1] []) (.bl true) && isB (callN T 10 f_law_same [q.1, q.1] []) (.bl true)
/-- the statements of _law_near ahead of its return -/
def dropLastS : Ss → Ss
  | .nil => .nil
  | .cons s .nil => .nil
  | .cons s r => .cons s (dropLastS r)
def sNear : Ss := dropLastS b_law_near
def nearEnv (t : D) : Env := match evSs (T.pg (callN T 0)) none sNear [some ⟨.ref 0, false⟩, some ⟨t, false⟩, none, none, none, none, none, none, none] [] with
  | .nx env _ => env
  | _ => []
def lstAt (o : Option (Option Sl)) : List D := match o with
  | some (some ⟨.lst xs, _⟩) => xs
  | _ => []
def nearL (t : D) : List D := lstAt ((nearEnv t)[7]?)
abbrev NearOk (n : Nat) (t : D) (r : Nat) (h : Hp) : Prop := evSs (T.pg (callN T n)) none sNear [some ⟨.ref r, false⟩, some ⟨t, false⟩, none, none, none, none, none, none, none] h = .nx ((nearEnv t).set 0 (some ⟨.ref r, false⟩)) h
def isE (o : Option (Option Sl)) : Bool := match o with
  | some (some ⟨.lst xs, _⟩) => true
  | _ => false
def chkN (p : Int) (q : D × List D) : Bool := (nearEnv q.1).length == 9 && isE ((nearEnv q.1)[7]?) && decide ((nearL q.1).length = 25) && (nearL q.1).all fun v => clo v && match callN T 8 f_is_told_of [.int p, v] [] with
  | .ok (.bl b, false, _) => isB (callN T 10 f_law_is_told [v, .int p] []) (.bl b)
  | _ => false
def uniB (a b : D) (k : Bool) : Bool := match callN T 10 f_law_united [a, b] [] with
  | .ok (.tup us, false, _) => clos us && shp (.tup us) && shp b && (eqv (.tup us) b == k)
  | _ => false
def chkU (pt : List D) (a : D) (ks : List Bool) : Bool := clo a && isB (callN T 8 f_is_partition_of [.int (match a with | .tup xs => xs.length | _ => 0), a] []) (.bl true) && (pt.zip ks).all fun z => uniB a z.1 z.2
def nt (b : Bool) : D → Bool
  | .bl c => b == c
  | _ => false
/-- no joined partition goes up to one that is not -/
def chkM (en : List (List Bool)) (u : List D) : Bool := (u.zip en).all fun a => (u.zip a.2).all fun b => !(nt true a.1 && nt false b.1 && b.2)
end K13

set_option maxHeartbeats 4000000
namespace K13
open Rw
theorem all2 {Q : D × List D → Prop} (h0 : Q (t2_0, u2_0)) : ∀ p ∈ tb2, Q p := by
  intro p hp
  unfold tb2 at hp
  simp only [List.mem_cons, List.not_mem_nil, or_false] at hp
  subst hp; exact h0
theorem j2_0 : chkJ pt2 (t2_0, u2_0) = true := by decide +kernel
theorem c2_0 : chkT 2 (t2_0, u2_0) = true := by decide +kernel
theorem n2_0 : chkN 2 (t2_0, u2_0) = true := by decide +kernel
theorem w2_0 (n r : Nat) (h : Hp) : NearOk n t2_0 r h := by kernel_rfl
theorem j2 : ∀ q ∈ tb2, chkJ pt2 q = true := all2 (Q := fun q => chkJ pt2 q = true) j2_0
theorem c2 : ∀ q ∈ tb2, chkT 2 q = true := all2 (Q := fun q => chkT 2 q = true) c2_0
theorem n2 : ∀ q ∈ tb2, chkN 2 q = true := all2 (Q := fun q => chkN 2 q = true) n2_0
theorem w2 : ∀ q ∈ tb2, ∀ n r h, NearOk n q.1 r h := all2 (Q := fun q => ∀ n r h, NearOk n q.1 r h) w2_0
theorem v2_0 : chkU pt2 (pt2.getD 0 .non) (en2.getD 0 []) = true := by decide +kernel
theorem v2_1 : chkU pt2 (pt2.getD 1 .non) (en2.getD 1 []) = true := by decide +kernel
theorem m2 : tb2.all (fun q => chkM en2 q.2 && q.2.length == pt2.length) = true := by decide +kernel
theorem d2 : ∀ (i j : Nat) (q z : D × List D), tb2[i]? = some q → tb2[j]? = some z → i ≠ j → eqvs q.2 z.2 = false := by
  have k : (List.range 1).all (fun i => (List.range 1).all fun j => i == j || (match tb2[i]?, tb2[j]? with | some q, some z => !eqvs q.2 z.2 | _, _ => true)) = true := by decide +kernel
  intro i j q z e1 e2 ne
  have hi : i < 1 := (List.getElem?_eq_some_iff.mp e1).1
  have hj : j < 1 := (List.getElem?_eq_some_iff.mp e2).1
  have := List.all_eq_true.mp (List.all_eq_true.mp k i (List.mem_range.mpr hi)) j (List.mem_range.mpr hj)
  rw [e1, e2] at this
  simpa [ne] using this
theorem all3 {Q : D × List D → Prop} (h0 : Q (t3_0, u3_0)) (h1 : Q (t3_1, u3_1)) (h2 : Q (t3_2, u3_2)) (h3 : Q (t3_3, u3_3)) (h4 : Q (t3_4, u3_4)) (h5 : Q (t3_5, u3_5)) : ∀ p ∈ tb3, Q p := by
  intro p hp
  unfold tb3 at hp
  simp only [List.mem_cons, List.not_mem_nil, or_false] at hp
  rcases hp with rfl | rfl | rfl | rfl | rfl | rfl
  all_goals assumption
theorem j3_0 : chkJ pt3 (t3_0, u3_0) = true := by decide +kernel
theorem c3_0 : chkT 3 (t3_0, u3_0) = true := by decide +kernel
theorem n3_0 : chkN 3 (t3_0, u3_0) = true := by decide +kernel
theorem w3_0 (n r : Nat) (h : Hp) : NearOk n t3_0 r h := by kernel_rfl
theorem j3_1 : chkJ pt3 (t3_1, u3_1) = true := by decide +kernel
theorem c3_1 : chkT 3 (t3_1, u3_1) = true := by decide +kernel
theorem n3_1 : chkN 3 (t3_1, u3_1) = true := by decide +kernel
theorem w3_1 (n r : Nat) (h : Hp) : NearOk n t3_1 r h := by kernel_rfl
theorem j3_2 : chkJ pt3 (t3_2, u3_2) = true := by decide +kernel
theorem c3_2 : chkT 3 (t3_2, u3_2) = true := by decide +kernel
theorem n3_2 : chkN 3 (t3_2, u3_2) = true := by decide +kernel
theorem w3_2 (n r : Nat) (h : Hp) : NearOk n t3_2 r h := by kernel_rfl
theorem j3_3 : chkJ pt3 (t3_3, u3_3) = true := by decide +kernel
theorem c3_3 : chkT 3 (t3_3, u3_3) = true := by decide +kernel
theorem n3_3 : chkN 3 (t3_3, u3_3) = true := by decide +kernel
theorem w3_3 (n r : Nat) (h : Hp) : NearOk n t3_3 r h := by kernel_rfl
theorem j3_4 : chkJ pt3 (t3_4, u3_4) = true := by decide +kernel
theorem c3_4 : chkT 3 (t3_4, u3_4) = true := by decide +kernel
theorem n3_4 : chkN 3 (t3_4, u3_4) = true := by decide +kernel
theorem w3_4 (n r : Nat) (h : Hp) : NearOk n t3_4 r h := by kernel_rfl
theorem j3_5 : chkJ pt3 (t3_5, u3_5) = true := by decide +kernel
theorem c3_5 : chkT 3 (t3_5, u3_5) = true := by decide +kernel
theorem n3_5 : chkN 3 (t3_5, u3_5) = true := by decide +kernel
theorem w3_5 (n r : Nat) (h : Hp) : NearOk n t3_5 r h := by kernel_rfl
theorem j3 : ∀ q ∈ tb3, chkJ pt3 q = true := all3 (Q := fun q => chkJ pt3 q = true) j3_0 j3_1 j3_2 j3_3 j3_4 j3_5
theorem c3 : ∀ q ∈ tb3, chkT 3 q = true := all3 (Q := fun q => chkT 3 q = true) c3_0 c3_1 c3_2 c3_3 c3_4 c3_5
theorem n3 : ∀ q ∈ tb3, chkN 3 q = true := all3 (Q := fun q => chkN 3 q = true) n3_0 n3_1 n3_2 n3_3 n3_4 n3_5
theorem w3 : ∀ q ∈ tb3, ∀ n r h, NearOk n q.1 r h := all3 (Q := fun q => ∀ n r h, NearOk n q.1 r h) w3_0 w3_1 w3_2 w3_3 w3_4 w3_5
theorem v3_0 : chkU pt3 (pt3.getD 0 .non) (en3.getD 0 []) = true := by decide +kernel
theorem v3_1 : chkU pt3 (pt3.getD 1 .non) (en3.getD 1 []) = true := by decide +kernel
theorem v3_2 : chkU pt3 (pt3.getD 2 .non) (en3.getD 2 []) = true := by decide +kernel
theorem v3_3 : chkU pt3 (pt3.getD 3 .non) (en3.getD 3 []) = true := by decide +kernel
theorem v3_4 : chkU pt3 (pt3.getD 4 .non) (en3.getD 4 []) = true := by decide +kernel
theorem m3 : tb3.all (fun q => chkM en3 q.2 && q.2.length == pt3.length) = true := by decide +kernel
theorem d3 : ∀ (i j : Nat) (q z : D × List D), tb3[i]? = some q → tb3[j]? = some z → i ≠ j → eqvs q.2 z.2 = false := by
  have k : (List.range 6).all (fun i => (List.range 6).all fun j => i == j || (match tb3[i]?, tb3[j]? with | some q, some z => !eqvs q.2 z.2 | _, _ => true)) = true := by decide +kernel
  intro i j q z e1 e2 ne
  have hi : i < 6 := (List.getElem?_eq_some_iff.mp e1).1
  have hj : j < 6 := (List.getElem?_eq_some_iff.mp e2).1
  have := List.all_eq_true.mp (List.all_eq_true.mp k i (List.mem_range.mpr hi)) j (List.mem_range.mpr hj)
  rw [e1, e2] at this
  simpa [ne] using this
theorem all4 {Q : D × List D → Prop} (h0 : Q (t4_0, u4_0)) (h1 : Q (t4_1, u4_1)) (h2 : Q (t4_2, u4_2)) (h3 : Q (t4_3, u4_3)) (h4 : Q (t4_4, u4_4)) (h5 : Q (t4_5, u4_5)) (h6 : Q (t4_6, u4_6)) (h7 : Q (t4_7, u4_7)) (h8 : Q (t4_8, u4_8)) (h9 : Q (t4_9, u4_9)) (h10 : Q (t4_10, u4_10)) (h11 : Q (t4_11, u4_11)) (h12 : Q (t4_12, u4_12)) (h13 : Q (t4_13, u4_13)) (h14 : Q (t4_14, u4_14)) (h15 : Q (t4_15, u4_15)) (h16 : Q (t4_16, u4_16)) (h17 : Q (t4_17, u4_17)) (h18 : Q (t4_18, u4_18)) (h19 : Q (t4_19, u4_19)) (h20 : Q (t4_20, u4_20)) (h21 : Q (t4_21, u4_21)) (h22 : Q (t4_22, u4_22)) (h23 : Q (t4_23, u4_23)) (h24 : Q (t4_24, u4_24)) (h25 : Q (t4_25, u4_25)) (h26 : Q (t4_26, u4_26)) (h27 : Q (t4_27, u4_27)) (h28 : Q (t4_28, u4_28)) (h29 : Q (t4_29, u4_29)) (h30 : Q (t4_30, u4_30)) : ∀ p ∈ tb4, Q p := by
  intro p hp
  unfold tb4 at hp
  simp only [List.mem_cons, List.not_mem_nil, or_false] at hp
  rcases hp with rfl | rfl | rfl | rfl | rfl | rfl | rfl | rfl | rfl | rfl | rfl | rfl | rfl | rfl | rfl | rfl | rfl | rfl | rfl | rfl | rfl | rfl | rfl | rfl | rfl | rfl | rfl | rfl | rfl | rfl | rfl
  all_goals assumption
theorem j4_0 : chkJ pt4 (t4_0, u4_0) = true := by decide +kernel
theorem c4_0 : chkT 4 (t4_0, u4_0) = true := by decide +kernel
theorem n4_0 : chkN 4 (t4_0, u4_0) = true := by decide +kernel
theorem w4_0 (n r : Nat) (h : Hp) : NearOk n t4_0 r h := by kernel_rfl
theorem j4_1 : chkJ pt4 (t4_1, u4_1) = true := by decide +kernel
theorem c4_1 : chkT 4 (t4_1, u4_1) = true := by decide +kernel
theorem n4_1 : chkN 4 (t4_1, u4_1) = true := by decide +kernel
theorem w4_1 (n r : Nat) (h : Hp) : NearOk n t4_1 r h := by kernel_rfl
theorem j4_2 : chkJ pt4 (t4_2, u4_2) = true := by decide +kernel
theorem c4_2 : chkT 4 (t4_2, u4_2) = true := by decide +kernel
theorem n4_2 : chkN 4 (t4_2, u4_2) = true := by decide +kernel
theorem w4_2 (n r : Nat) (h : Hp) : NearOk n t4_2 r h := by kernel_rfl
theorem j4_3 : chkJ pt4 (t4_3, u4_3) = true := by decide +kernel
theorem c4_3 : chkT 4 (t4_3, u4_3) = true := by decide +kernel
theorem n4_3 : chkN 4 (t4_3, u4_3) = true := by decide +kernel
theorem w4_3 (n r : Nat) (h : Hp) : NearOk n t4_3 r h := by kernel_rfl
theorem j4_4 : chkJ pt4 (t4_4, u4_4) = true := by decide +kernel
theorem c4_4 : chkT 4 (t4_4, u4_4) = true := by decide +kernel
theorem n4_4 : chkN 4 (t4_4, u4_4) = true := by decide +kernel
theorem w4_4 (n r : Nat) (h : Hp) : NearOk n t4_4 r h := by kernel_rfl
theorem j4_5 : chkJ pt4 (t4_5, u4_5) = true := by decide +kernel
theorem c4_5 : chkT 4 (t4_5, u4_5) = true := by decide +kernel
theorem n4_5 : chkN 4 (t4_5, u4_5) = true := by decide +kernel
theorem w4_5 (n r : Nat) (h : Hp) : NearOk n t4_5 r h := by kernel_rfl
theorem j4_6 : chkJ pt4 (t4_6, u4_6) = true := by decide +kernel
theorem c4_6 : chkT 4 (t4_6, u4_6) = true := by decide +kernel
theorem n4_6 : chkN 4 (t4_6, u4_6) = true := by decide +kernel
theorem w4_6 (n r : Nat) (h : Hp) : NearOk n t4_6 r h := by kernel_rfl
theorem j4_7 : chkJ pt4 (t4_7, u4_7) = true := by decide +kernel
theorem c4_7 : chkT 4 (t4_7, u4_7) = true := by decide +kernel
theorem n4_7 : chkN 4 (t4_7, u4_7) = true := by decide +kernel
theorem w4_7 (n r : Nat) (h : Hp) : NearOk n t4_7 r h := by kernel_rfl
theorem j4_8 : chkJ pt4 (t4_8, u4_8) = true := by decide +kernel
theorem c4_8 : chkT 4 (t4_8, u4_8) = true := by decide +kernel
theorem n4_8 : chkN 4 (t4_8, u4_8) = true := by decide +kernel
theorem w4_8 (n r : Nat) (h : Hp) : NearOk n t4_8 r h := by kernel_rfl
theorem j4_9 : chkJ pt4 (t4_9, u4_9) = true := by decide +kernel
theorem c4_9 : chkT 4 (t4_9, u4_9) = true := by decide +kernel
theorem n4_9 : chkN 4 (t4_9, u4_9) = true := by decide +kernel
theorem w4_9 (n r : Nat) (h : Hp) : NearOk n t4_9 r h := by kernel_rfl
theorem j4_10 : chkJ pt4 (t4_10, u4_10) = true := by decide +kernel
theorem c4_10 : chkT 4 (t4_10, u4_10) = true := by decide +kernel
theorem n4_10 : chkN 4 (t4_10, u4_10) = true := by decide +kernel
theorem w4_10 (n r : Nat) (h : Hp) : NearOk n t4_10 r h := by kernel_rfl
theorem j4_11 : chkJ pt4 (t4_11, u4_11) = true := by decide +kernel
theorem c4_11 : chkT 4 (t4_11, u4_11) = true := by decide +kernel
theorem n4_11 : chkN 4 (t4_11, u4_11) = true := by decide +kernel
theorem w4_11 (n r : Nat) (h : Hp) : NearOk n t4_11 r h := by kernel_rfl
theorem j4_12 : chkJ pt4 (t4_12, u4_12) = true := by decide +kernel
theorem c4_12 : chkT 4 (t4_12, u4_12) = true := by decide +kernel
theorem n4_12 : chkN 4 (t4_12, u4_12) = true := by decide +kernel
theorem w4_12 (n r : Nat) (h : Hp) : NearOk n t4_12 r h := by kernel_rfl
theorem j4_13 : chkJ pt4 (t4_13, u4_13) = true := by decide +kernel
theorem c4_13 : chkT 4 (t4_13, u4_13) = true := by decide +kernel
theorem n4_13 : chkN 4 (t4_13, u4_13) = true := by decide +kernel
theorem w4_13 (n r : Nat) (h : Hp) : NearOk n t4_13 r h := by kernel_rfl
theorem j4_14 : chkJ pt4 (t4_14, u4_14) = true := by decide +kernel
theorem c4_14 : chkT 4 (t4_14, u4_14) = true := by decide +kernel
theorem n4_14 : chkN 4 (t4_14, u4_14) = true := by decide +kernel
theorem w4_14 (n r : Nat) (h : Hp) : NearOk n t4_14 r h := by kernel_rfl
theorem j4_15 : chkJ pt4 (t4_15, u4_15) = true := by decide +kernel
theorem c4_15 : chkT 4 (t4_15, u4_15) = true := by decide +kernel
theorem n4_15 : chkN 4 (t4_15, u4_15) = true := by decide +kernel
theorem w4_15 (n r : Nat) (h : Hp) : NearOk n t4_15 r h := by kernel_rfl
theorem j4_16 : chkJ pt4 (t4_16, u4_16) = true := by decide +kernel
theorem c4_16 : chkT 4 (t4_16, u4_16) = true := by decide +kernel
theorem n4_16 : chkN 4 (t4_16, u4_16) = true := by decide +kernel
theorem w4_16 (n r : Nat) (h : Hp) : NearOk n t4_16 r h := by kernel_rfl
theorem j4_17 : chkJ pt4 (t4_17, u4_17) = true := by decide +kernel
theorem c4_17 : chkT 4 (t4_17, u4_17) = true := by decide +kernel
theorem n4_17 : chkN 4 (t4_17, u4_17) = true := by decide +kernel
theorem w4_17 (n r : Nat) (h : Hp) : NearOk n t4_17 r h := by kernel_rfl
theorem j4_18 : chkJ pt4 (t4_18, u4_18) = true := by decide +kernel
theorem c4_18 : chkT 4 (t4_18, u4_18) = true := by decide +kernel
theorem n4_18 : chkN 4 (t4_18, u4_18) = true := by decide +kernel
theorem w4_18 (n r : Nat) (h : Hp) : NearOk n t4_18 r h := by kernel_rfl
theorem j4_19 : chkJ pt4 (t4_19, u4_19) = true := by decide +kernel
theorem c4_19 : chkT 4 (t4_19, u4_19) = true := by decide +kernel
theorem n4_19 : chkN 4 (t4_19, u4_19) = true := by decide +kernel
theorem w4_19 (n r : Nat) (h : Hp) : NearOk n t4_19 r h := by kernel_rfl
theorem j4_20 : chkJ pt4 (t4_20, u4_20) = true := by decide +kernel
theorem c4_20 : chkT 4 (t4_20, u4_20) = true := by decide +kernel
theorem n4_20 : chkN 4 (t4_20, u4_20) = true := by decide +kernel
theorem w4_20 (n r : Nat) (h : Hp) : NearOk n t4_20 r h := by kernel_rfl
theorem j4_21 : chkJ pt4 (t4_21, u4_21) = true := by decide +kernel
theorem c4_21 : chkT 4 (t4_21, u4_21) = true := by decide +kernel
theorem n4_21 : chkN 4 (t4_21, u4_21) = true := by decide +kernel
theorem w4_21 (n r : Nat) (h : Hp) : NearOk n t4_21 r h := by kernel_rfl
theorem j4_22 : chkJ pt4 (t4_22, u4_22) = true := by decide +kernel
theorem c4_22 : chkT 4 (t4_22, u4_22) = true := by decide +kernel
theorem n4_22 : chkN 4 (t4_22, u4_22) = true := by decide +kernel
theorem w4_22 (n r : Nat) (h : Hp) : NearOk n t4_22 r h := by kernel_rfl
theorem j4_23 : chkJ pt4 (t4_23, u4_23) = true := by decide +kernel
theorem c4_23 : chkT 4 (t4_23, u4_23) = true := by decide +kernel
theorem n4_23 : chkN 4 (t4_23, u4_23) = true := by decide +kernel
theorem w4_23 (n r : Nat) (h : Hp) : NearOk n t4_23 r h := by kernel_rfl
theorem j4_24 : chkJ pt4 (t4_24, u4_24) = true := by decide +kernel
theorem c4_24 : chkT 4 (t4_24, u4_24) = true := by decide +kernel
theorem n4_24 : chkN 4 (t4_24, u4_24) = true := by decide +kernel
theorem w4_24 (n r : Nat) (h : Hp) : NearOk n t4_24 r h := by kernel_rfl
theorem j4_25 : chkJ pt4 (t4_25, u4_25) = true := by decide +kernel
theorem c4_25 : chkT 4 (t4_25, u4_25) = true := by decide +kernel
theorem n4_25 : chkN 4 (t4_25, u4_25) = true := by decide +kernel
theorem w4_25 (n r : Nat) (h : Hp) : NearOk n t4_25 r h := by kernel_rfl
theorem j4_26 : chkJ pt4 (t4_26, u4_26) = true := by decide +kernel
theorem c4_26 : chkT 4 (t4_26, u4_26) = true := by decide +kernel
theorem n4_26 : chkN 4 (t4_26, u4_26) = true := by decide +kernel
theorem w4_26 (n r : Nat) (h : Hp) : NearOk n t4_26 r h := by kernel_rfl
theorem j4_27 : chkJ pt4 (t4_27, u4_27) = true := by decide +kernel
theorem c4_27 : chkT 4 (t4_27, u4_27) = true := by decide +kernel
theorem n4_27 : chkN 4 (t4_27, u4_27) = true := by decide +kernel
theorem w4_27 (n r : Nat) (h : Hp) : NearOk n t4_27 r h := by kernel_rfl
theorem j4_28 : chkJ pt4 (t4_28, u4_28) = true := by decide +kernel
theorem c4_28 : chkT 4 (t4_28, u4_28) = true := by decide +kernel
theorem n4_28 : chkN 4 (t4_28, u4_28) = true := by decide +kernel
theorem w4_28 (n r : Nat) (h : Hp) : NearOk n t4_28 r h := by kernel_rfl
theorem j4_29 : chkJ pt4 (t4_29, u4_29) = true := by decide +kernel
theorem c4_29 : chkT 4 (t4_29, u4_29) = true := by decide +kernel
theorem n4_29 : chkN 4 (t4_29, u4_29) = true := by decide +kernel
theorem w4_29 (n r : Nat) (h : Hp) : NearOk n t4_29 r h := by kernel_rfl
theorem j4_30 : chkJ pt4 (t4_30, u4_30) = true := by decide +kernel
theorem c4_30 : chkT 4 (t4_30, u4_30) = true := by decide +kernel
theorem n4_30 : chkN 4 (t4_30, u4_30) = true := by decide +kernel
theorem w4_30 (n r : Nat) (h : Hp) : NearOk n t4_30 r h := by kernel_rfl
theorem j4 : ∀ q ∈ tb4, chkJ pt4 q = true := all4 (Q := fun q => chkJ pt4 q = true) j4_0 j4_1 j4_2 j4_3 j4_4 j4_5 j4_6 j4_7 j4_8 j4_9 j4_10 j4_11 j4_12 j4_13 j4_14 j4_15 j4_16 j4_17 j4_18 j4_19 j4_20 j4_21 j4_22 j4_23 j4_24 j4_25 j4_26 j4_27 j4_28 j4_29 j4_30
theorem c4 : ∀ q ∈ tb4, chkT 4 q = true := all4 (Q := fun q => chkT 4 q = true) c4_0 c4_1 c4_2 c4_3 c4_4 c4_5 c4_6 c4_7 c4_8 c4_9 c4_10 c4_11 c4_12 c4_13 c4_14 c4_15 c4_16 c4_17 c4_18 c4_19 c4_20 c4_21 c4_22 c4_23 c4_24 c4_25 c4_26 c4_27 c4_28 c4_29 c4_30
theorem n4 : ∀ q ∈ tb4, chkN 4 q = true := all4 (Q := fun q => chkN 4 q = true) n4_0 n4_1 n4_2 n4_3 n4_4 n4_5 n4_6 n4_7 n4_8 n4_9 n4_10 n4_11 n4_12 n4_13 n4_14 n4_15 n4_16 n4_17 n4_18 n4_19 n4_20 n4_21 n4_22 n4_23 n4_24 n4_25 n4_26 n4_27 n4_28 n4_29 n4_30
theorem w4 : ∀ q ∈ tb4, ∀ n r h, NearOk n q.1 r h := all4 (Q := fun q => ∀ n r h, NearOk n q.1 r h) w4_0 w4_1 w4_2 w4_3 w4_4 w4_5 w4_6 w4_7 w4_8 w4_9 w4_10 w4_11 w4_12 w4_13 w4_14 w4_15 w4_16 w4_17 w4_18 w4_19 w4_20 w4_21 w4_22 w4_23 w4_24 w4_25 w4_26 w4_27 w4_28 w4_29 w4_30
theorem v4_0 : chkU pt4 (pt4.getD 0 .non) (en4.getD 0 []) = true := by decide +kernel
theorem v4_1 : chkU pt4 (pt4.getD 1 .non) (en4.getD 1 []) = true := by decide +kernel
theorem v4_2 : chkU pt4 (pt4.getD 2 .non) (en4.getD 2 []) = true := by decide +kernel
theorem v4_3 : chkU pt4 (pt4.getD 3 .non) (en4.getD 3 []) = true := by decide +kernel
theorem v4_4 : chkU pt4 (pt4.getD 4 .non) (en4.getD 4 []) = true := by decide +kernel
theorem v4_5 : chkU pt4 (pt4.getD 5 .non) (en4.getD 5 []) = true := by decide +kernel
theorem v4_6 : chkU pt4 (pt4.getD 6 .non) (en4.getD 6 []) = true := by decide +kernel
theorem v4_7 : chkU pt4 (pt4.getD 7 .non) (en4.getD 7 []) = true := by decide +kernel
theorem v4_8 : chkU pt4 (pt4.getD 8 .non) (en4.getD 8 []) = true := by decide +kernel
theorem v4_9 : chkU pt4 (pt4.getD 9 .non) (en4.getD 9 []) = true := by decide +kernel
theorem v4_10 : chkU pt4 (pt4.getD 10 .non) (en4.getD 10 []) = true := by decide +kernel
theorem v4_11 : chkU pt4 (pt4.getD 11 .non) (en4.getD 11 []) = true := by decide +kernel
theorem v4_12 : chkU pt4 (pt4.getD 12 .non) (en4.getD 12 []) = true := by decide +kernel
theorem v4_13 : chkU pt4 (pt4.getD 13 .non) (en4.getD 13 []) = true := by decide +kernel
theorem v4_14 : chkU pt4 (pt4.getD 14 .non) (en4.getD 14 []) = true := by decide +kernel
theorem m4 : tb4.all (fun q => chkM en4 q.2 && q.2.length == pt4.length) = true := by decide +kernel
theorem d4 : ∀ (i j : Nat) (q z : D × List D), tb4[i]? = some q → tb4[j]? = some z → i ≠ j → eqvs q.2 z.2 = false := by
  have k : (List.range 31).all (fun i => (List.range 31).all fun j => i == j || (match tb4[i]?, tb4[j]? with | some q, some z => !eqvs q.2 z.2 | _, _ => true)) = true := by decide +kernel
  intro i j q z e1 e2 ne
  have hi : i < 31 := (List.getElem?_eq_some_iff.mp e1).1
  have hj : j < 31 := (List.getElem?_eq_some_iff.mp e2).1
  have := List.all_eq_true.mp (List.all_eq_true.mp k i (List.mem_range.mpr hi)) j (List.mem_range.mpr hj)
  rw [e1, e2] at this
  simpa [ne] using this
end K13

set_option maxHeartbeats 4000000
namespace K13
open Rw
theorem near_body : F_law_near.body = appS sNear (.cons (.frz [7] (.ret (.cutE (.call 20 (.cons (.var 0) (.cons (.var 7) .nil))) .no (.yes (.con (.int 10)))))) .nil) := by kernel_rfl
theorem near_tail {n r : Nat} {L ys : List D} {env : Env} {h h' : Hp} {o : Bool} (v0 : env[0]? = some (some ⟨.ref r, false⟩)) (v7 : env[7]? = some (some ⟨.lst L, o⟩)) (hl : env.length = 9) (e : callN T n f_law_mixed [.ref r, .lst L] h = .ok (.lst ys, true, h')) :
    evSs (T.pg (callN T n)) none (.cons (.frz [7] (.ret (.cutE (.call 20 (.cons (.var 0) (.cons (.var 7) .nil))) .no (.yes (.con (.int 10)))))) .nil) env h = .rt (.lst (cut ys none (some 10))) true h' := by
  refine ss_rt (s_frz.trans (s_ret ?_))
  have ef : frzE env [7] = env.set 7 (some ⟨.lst L, false⟩) := by simp only [frzE, v7]
  rw [ef]
  have w0 : (env.set 7 (some (⟨.lst L, false⟩ : Sl)))[0]? = some (some ⟨.ref r, false⟩) := by rw [List.getElem?_set_ne (by decide)]; exact v0
  have w7 : (env.set 7 (some (⟨.lst L, false⟩ : Sl)))[7]? = some (some ⟨.lst L, false⟩) := by rw [List.getElem?_set_self (by rw [hl]; decide)]
  have ec : evE (T.pg (callN T n)) none false (.call 20 (.cons (.var 0) (.cons (.var 7) .nil))) (env.set 7 (some ⟨.lst L, false⟩)) h = .ok (.lst ys, true, h') :=
    e_call (es_cons' (e_var w0 rfl) (es_cons' (e_var w7 rfl) es_nil')) e
  generalize E.call 20 (.cons (.var 0) (.cons (.var 7) .nil)) = e0 at ec ⊢
  simp only [evE, evO, ec, R.bind_ok]
  rfl
theorem near_ok {n : Nat} {t : D} {o : Bool} (hl : (nearEnv t).length = 9) (h7 : (nearEnv t)[7]? = some (some ⟨.lst (nearL t), o⟩)) (hz : (nearL t).length ≤ 30) (r : Nat) (a c d : Int) (b : Bool) (h : Hp) (hw : NearOk (n + 2) t r h) (hr : h[r]? = some (boxC a b c d)) (hc : 0 ≤ c ∧ c < 2147483648) (hd : 0 ≤ d ∧ d < 90000000000) :
    ∃ zs a' d' h', callN T (n + 3) f_law_near [.ref r, t] h = .ok (.lst zs, true, h') ∧ (∀ z ∈ zs, z ∈ nearL t) ∧ h'[r]? = some (boxC a' b c d') ∧ d ≤ d' ∧ d' ≤ d + 30 ∧ Kp r h h' := by
  obtain ⟨ys, a', d', h', e1, pm, hb, hd1, hd2, kp⟩ := mixed_ok n r (nearL t) a c d b h hr (by omega) hc ⟨by omega, by omega⟩
  have q : callN T (n + 3) f_law_near [.ref r, t] h = .ok (.lst (cut ys none (some 10)), true, h') := by
    rw [callN_step (F := F_law_near) rfl rfl]
    refine fn_rt rfl (env := [some ⟨.ref r, false⟩, some ⟨t, false⟩, none, none, none, none, none, none, none]) rfl ?_
    rw [near_body]
    refine (ss_app hw).trans ?_
    generalize nearEnv t = ne at hl h7 ⊢
    generalize nearL t = nl at h7 e1 ⊢
    exact near_tail (o := o) (by rw [List.getElem?_set_self (by rw [hl]; decide)]) (by rw [List.getElem?_set_ne (by decide)]; exact h7) (by rw [List.length_set]; exact hl) e1
  refine ⟨_, a', d', h', q, fun z hz => ?_, hb, hd1, by omega, kp⟩
  refine pm.subset ?_
  unfold cut at hz
  exact List.mem_of_mem_drop (List.mem_of_mem_take hz)
/-- what is known of a told frame -/
structure TF (N p : Nat) (pt : List D) (t : D) (u : List D) : Prop where
  c : clo t = true
  len : u.length = pt.length
  asked : ∀ (k : Nat) (b d : D), pt[k]? = some b → u[k]? = some d → ∀ s : Nat, s < 2 → ∀ h, callN T N f_law_asked [.int 2, .lst [t, b], .int s] h = .ok (.lst [sT, d], true, h)
  joins : ∀ (k : Nat) (b d : D), pt[k]? = some b → u[k]? = some d → ∀ h, callN T N f_law_joins [t, b] h = .ok (d, false, h)
  same : ∀ h, callN T N f_law_same [.lst (rowD u), .lst (rowD u)] h = .ok (.bl true, false, h)
  bls : ∀ (k : Nat) (d : D), u[k]? = some d → ∃ b, d = .bl b
  fst : u[0]? = some (.bl true)
  lst : u[u.length - 1]? = some (.bl false)
  nest : ∀ (i j : Nat) (a b : D), u[i]? = some (.bl true) → u[j]? = some (.bl false) → pt[i]? = some a → pt[j]? = some b → ∀ h, ∃ U, callN T N f_law_united [a, b] h = .ok (U, false, h) ∧ shp U = true ∧ shp b = true ∧ eqv U b = false
  near : (nearEnv t).length = 9 ∧ (∃ o, (nearEnv t)[7]? = some (some ⟨.lst (nearL t), o⟩)) ∧ (nearL t).length ≤ 30 ∧ ∀ n r h, NearOk n t r h
  vals : ∀ v ∈ nearL t, ∃ k, (∀ s : Nat, s < 2 → ∀ h, callN T N f_law_asked [.int 1, .lst [.int p, v], .int s] h = .ok (.lst [sT, .bl k], true, h)) ∧ ∀ h, callN T N f_law_is_told [v, .int p] h = .ok (.bl k, false, h)
abbrev EV (r hh p : Nat) (tn : Nat) (e f s : Option Sl) (pt rows : List D) (t : D) (x10 x11 x12 x13 x14 x15 x16 x17 : Option Sl) : Env :=
  [some ⟨.ref r, false⟩, some ⟨.int p, false⟩, some ⟨.int tn, false⟩, some ⟨.ref hh, false⟩, e, some ⟨.lst pt, true⟩, f, s, some ⟨.lst rows, true⟩, some ⟨t, false⟩, x10, x11, x12, x13, x14, x15, x16, x17]
abbrev PN (N : Nat) : Pg := T.pg (callN T N)
section
variable {N r hh p tn : Nat} {e f s : Option Sl} {pt rows : List D} {t : D} {u : List D} {x10 x11 x12 x13 x14 x15 x16 x17 : Option Sl} {h : Hp}
theorem st_row (F : TF N p pt t u) (hp : pt.length < 1000) (ht : tn < 2) : evE (PN N) none true c_law_posts_right_0 (EV r hh p tn e f s pt rows t x10 x11 x12 x13 x14 x15 x16 x17) h = .ok (.lst (rowD u), true, h) := by
  refine e_lcZ (src := .non) (xs := enumD 0 pt) (h1 := h) (it_enumL (o := false) (e_var rfl rfl)) rfl (by rw [enum_len, rowD, List.length_map, F.len]) (by rw [enum_len]; exact le_max (by omega)) fun k d y e1 e2 => ?_
  obtain ⟨b, eb, rfl⟩ := enum_at pt 0 k d e1
  obtain ⟨d, ed, rfl⟩ : ∃ d, u[k]? = some d ∧ .lst [sT, d] = y := by
    unfold rowD at e2
    rw [List.getElem?_map] at e2
    exact Option.map_eq_some_iff.mp e2
  have em : ((tn : Int) + ((0 + k : Nat) : Int)).fmod 2 = (((tn + k) % 2 : Nat) : Int) := by
    rw [Int.fmod_eq_emod_of_nonneg _ (by decide)]; omega
  refine ⟨EV r hh p tn e f s pt rows t x10 (some ⟨.int ((0 + k : Nat)), false⟩) (some ⟨b, false⟩) x13 x14 x15 x16 x17, true, rfl, ?_⟩
  refine e_call (ds := [.int 2, .lst [t, b], .int (((tn + k) % 2 : Nat))]) (h1 := h) (es_cons' e_con (es_cons' (e_lst (es_cons' (e_var rfl rfl) (es_cons' (e_var rfl rfl) es_nil')) (by show 2 ≤ 100000; decide)) (es_cons' (o := false) ?_ es_nil'))) (F.asked k b d eb ed _ (by omega) h)
  refine e_bin (o := false) (o2 := false) (h1 := h) (x := .int ((tn : Int) + ((0 + k : Nat) : Int))) (e_blt (es_cons' (e_bin (e_var rfl rfl) (e_var rfl rfl) op_add) es_nil') b_intI) e_con ?_
  rw [op_mod (by decide), em]
theorem st_due (F : TF N p pt t u) (hp : pt.length < 1000) : evE (PN N) none true c_law_posts_right_1 (EV r hh p tn e f s pt rows t x10 x11 x12 x13 x14 x15 x16 x17) h = .ok (.lst u, true, h) := by
  refine e_lcZ (src := .lst pt) (xs := pt) (h1 := h) (it_seq (o := false) (e_var rfl rfl) rfl) rfl F.len.symm (le_max (by omega)) fun k b d e1 e2 => ?_
  exact ⟨EV r hh p tn e f s pt rows t x10 x11 (some ⟨b, false⟩) x13 x14 x15 x16 x17, false, rfl, e_call (es_cons' (e_var rfl rfl) (es_cons' (e_var rfl rfl) es_nil')) (F.joins k b d e1 e2 h)⟩
theorem st_c2 (F : TF N p pt t u) (hp : pt.length < 1000) {o : Bool} : evE (PN N) none true c_law_posts_right_2 (EV r hh p tn e f s pt rows t x10 x11 x12 (some ⟨.lst u, o⟩) x14 x15 x16 x17) h = .ok (.lst (rowD u), true, h) := by
  refine e_lcZ (src := .lst u) (xs := u) (h1 := h) (it_seq (o := false) (e_var rfl rfl) rfl) rfl (by rw [rowD, List.length_map]) (by rw [F.len]; exact le_max (by omega)) fun k d y e1 e2 => ?_
  have ey : .lst [sT, d] = y := by
    unfold rowD at e2
    rw [List.getElem?_map, e1] at e2
    exact Option.some.inj e2
  subst ey
  exact ⟨EV r hh p tn e f s pt rows t x10 x11 x12 (some ⟨.lst u, o⟩) (some ⟨d, false⟩) x15 x16 x17, true, rfl, e_lst (es_cons' e_con (es_cons' (e_var rfl rfl) es_nil')) (by show 2 ≤ 100000; decide)⟩
end
end K13

set_option maxHeartbeats 4000000
namespace K13
open Rw
section
variable {N r hh p tn : Nat} {e f s : Option Sl} {pt rows : List D} {t : D} {u : List D} {x10 x11 x12 x13 x14 x15 x16 x17 : Option Sl} {h : Hp} {o : Bool}
theorem ix_nat {P : Pg} {cx : Option Exn} {cap : Bool} {i j k : Nat} {env : Env} {xs : List D} {x : D} {o o2 : Bool} (e1 : env[i]? = some (some ⟨.lst xs, o⟩)) (e2 : env[j]? = some (some ⟨.int (k : Int), o2⟩)) (ex : xs[k]? = some x) : evE P cx cap (.idx (.var i) (.var j)) env h = .ok (x, false, h) :=
  e_idx (e_var e1 rfl) (e_var e2 rfl) (ix_at (show seqOf h (.lst xs) = some xs from rfl) ex fun _ z => by cases z)
theorem st_l3 (F : TF N p pt t u) {i j : Nat} (hi : i < pt.length) (hj : j < pt.length) :
    evSs (PN N) none l_law_posts_right_3 (EV r hh p tn e f s pt rows t x10 x11 x12 (some ⟨.lst u, o⟩) x14 (some ⟨.int (i : Int), false⟩) (some ⟨.int (j : Int), false⟩) x17) h = .nx (EV r hh p tn e f s pt rows t x10 x11 x12 (some ⟨.lst u, o⟩) x14 (some ⟨.int (i : Int), false⟩) (some ⟨.int (j : Int), false⟩) x17) h := by
  have hiu : i < u.length := by rw [F.len]; exact hi
  have hju : j < u.length := by rw [F.len]; exact hj
  have ui : u[i]? = some u[i] := List.getElem?_eq_getElem hiu
  have uj : u[j]? = some u[j] := List.getElem?_eq_getElem hju
  obtain ⟨bi, ei⟩ := F.bls i _ ui
  obtain ⟨bj, ej⟩ := F.bls j _ uj
  rw [ei] at ui
  rw [ej] at uj
  have pi : pt[i]? = some pt[i] := List.getElem?_eq_getElem hi
  have pj : pt[j]? = some pt[j] := List.getElem?_eq_getElem hj
  refine (ss_nx (s_ifF (o := false) ?_ ss_nil)).trans ss_nil
  cases bi with
  | false => exact e_andF (ix_nat rfl rfl ui)
  | true =>
    refine e_andT (o2 := false) (ix_nat rfl rfl ui) ?_
    cases bj with
    | true => exact e_andF (e_not (k := true) (ix_nat rfl rfl uj))
    | false =>
      obtain ⟨U, eU, s1, s2, q⟩ := F.nest i j _ _ ui uj pi pj h
      refine e_andT (o2 := false) (e_not (k := false) (ix_nat rfl rfl uj)) (e_cmp (e_call (es_cons' (ix_nat rfl rfl pi) (es_cons' (ix_nat rfl rfl pj) es_nil')) eU) (ix_nat rfl rfl pj) ?_)
      rw [cm_eqD s1 s2, q]
theorem len_it {P : Pg} {cx : Option Exn} {cap : Bool} {i : Nat} {env : Env} {xs : List D} {o : Bool} (e1 : env[i]? = some (some ⟨.lst xs, o⟩)) (hz : xs.length < 100000) : evI P cx cap (.rng1 (.blt .len (.cons (.var i) .nil))) env h = .ok (.non, rng 0 xs.length, h) :=
  it_rng1 (i := (xs.length : Int)) (o := false) (e_blt (es_cons' (e_var e1 rfl) es_nil') b_lenL) (by omega) (by omega)
theorem st_l4 (F : TF N p pt t u) (hp : pt.length < 1000) {i : Nat} (hi : i < pt.length) : ∃ y16,
    evSs (PN N) none l_law_posts_right_4 (EV r hh p tn e f s pt rows t x10 x11 x12 (some ⟨.lst u, o⟩) x14 (some ⟨.int (i : Int), false⟩) x16 x17) h = .nx (EV r hh p tn e f s pt rows t x10 x11 x12 (some ⟨.lst u, o⟩) x14 (some ⟨.int (i : Int), false⟩) y16 x17) h := by
  obtain ⟨env', h', e1, rfl, y, rfl⟩ := forGo_all (chk := stays .non (rng 0 pt.length)) (t := .n 16) (b := evSs (PN N) none l_law_posts_right_3) (ds := rng 0 pt.length) (h := h) (env := EV r hh p tn e f s pt rows t x10 x11 x12 (some ⟨.lst u, o⟩) x14 (some ⟨.int (i : Int), false⟩) x16 x17)
    (fun _ env h1 => h1 = h ∧ ∃ y, env = EV r hh p tn e f s pt rows t x10 x11 x12 (some ⟨.lst u, o⟩) x14 (some ⟨.int (i : Int), false⟩) y x17) (fun _ _ _ => rfl) ⟨rfl, _, rfl⟩ fun pre d post hs env1 h1 ⟨eh, y, ee⟩ => by
      subst eh ee
      obtain ⟨j, hj, rfl⟩ := rng_mem (show d ∈ rng 0 pt.length by rw [hs]; simp)
      exact ⟨rfl, _, _, _, rfl, .inl (st_l3 F hi hj), rfl, _, rfl⟩
  exact ⟨y, (ss_nx ((s_for (len_it rfl (by omega))).trans e1)).trans ss_nil⟩
theorem st_nest (F : TF N p pt t u) (hp : pt.length < 1000) : ∃ y15 y16,
    evS (PN N) none (.for_ (.n 15) (.rng1 (.blt .len (.cons (.var 5) .nil))) l_law_posts_right_4) (EV r hh p tn e f s pt rows t x10 x11 x12 (some ⟨.lst u, o⟩) x14 x15 x16 x17) h = .nx (EV r hh p tn e f s pt rows t x10 x11 x12 (some ⟨.lst u, o⟩) x14 y15 y16 x17) h := by
  obtain ⟨env', h', e1, rfl, y15, y16, rfl⟩ := forGo_all (chk := stays .non (rng 0 pt.length)) (t := .n 15) (b := evSs (PN N) none l_law_posts_right_4) (ds := rng 0 pt.length) (h := h) (env := EV r hh p tn e f s pt rows t x10 x11 x12 (some ⟨.lst u, o⟩) x14 x15 x16 x17)
    (fun _ env h1 => h1 = h ∧ ∃ y15 y16, env = EV r hh p tn e f s pt rows t x10 x11 x12 (some ⟨.lst u, o⟩) x14 y15 y16 x17) (fun _ _ _ => rfl) ⟨rfl, _, _, rfl⟩ fun pre d post hs env1 h1 ⟨eh, y15, y16, ee⟩ => by
      subst eh ee
      obtain ⟨i, hi, rfl⟩ := rng_mem (show d ∈ rng 0 pt.length by rw [hs]; simp)
      obtain ⟨z, ez⟩ := st_l4 (r := r) (hh := hh) (tn := tn) (e := e) (f := f) (s := s) (rows := rows) (x10 := x10) (x11 := x11) (x12 := x12) (x14 := x14) (x16 := y16) (x17 := x17) (h := h1) (o := o) F hp hi
      exact ⟨rfl, _, _, _, rfl, .inl ez, rfl, _, _, rfl⟩
  exact ⟨y15, y16, (s_for (len_it rfl (by omega))).trans e1⟩
theorem st_if (F : TF N p pt t u) (hp : pt.length < 1000) (hr : rows.all shp = true) (hu : shp (.lst u) = true) (hn : (rows.any fun y => eqv y (.lst u)) = false) :
    evS (PN N) none (.frz [10] (.ifs (.or_ (.not_ (.call 21 (.cons (.var 10) (.cons c_law_posts_right_2 .nil)))) (.or_ (.cmp .in_ (.var 13) (.var 8)) (.or_ (.idx (.var 13) (.neg (.con (.int 1)))) (.not_ (.idx (.var 13) (.con (.int 0)))))))
    (.cons (.ret (.con (.bl false))) .nil) .nil)) (EV r hh p tn e f s pt rows t (some ⟨.lst (rowD u), true⟩) x11 x12 (some ⟨.lst u, true⟩) x14 x15 x16 x17) h = .nx (EV r hh p tn e f s pt rows t (some ⟨.lst (rowD u), false⟩) x11 x12 (some ⟨.lst u, true⟩) x14 x15 x16 x17) h := by
  have lu : 0 < u.length := (List.getElem?_eq_some_iff.mp F.fst).1
  have i1 : evIx (.lst u) (.int (-1)) h = some (.bl false) := by
    rw [evIx_lst]
    have : ixOf u.length (-1) = some (u.length - 1) := by
      unfold ixOf
      rw [if_neg (by decide), if_pos (by omega)]
      congr 1; omega
    rw [this]
    exact F.lst
  have i0 : evIx (.lst u) (.int 0) h = some (.bl true) := ix_at (k := 0) (show seqOf h (.lst u) = some u from rfl) F.fst fun _ z => by cases z
  refine s_frz.trans (s_ifF (o := false) ?_ ss_nil)
  refine e_orF (o2 := false) (e_not (k := true) (e_call (es_cons' (e_var rfl rfl) (es_cons' (st_c2 F hp) es_nil')) (F.same h))) ?_
  refine e_orF (o2 := false) (e_cmp (e_var rfl rfl) (e_var rfl rfl) ((evIn_lst hu hr).trans (by rw [hn]))) ?_
  refine e_orF (o2 := false) (e_idx (y := .int (-1)) (e_var rfl rfl) (o2 := false) ?_ i1) (e_not (k := true) (e_idx (e_var rfl rfl) e_con i0))
  simp [evE]
theorem st_app (hz : rows.length < 1000) : evS (PN N) none (.frz [13] (.mut .append (.var 8) (.cons (.var 13) .nil))) (EV r hh p tn e f s pt rows t x10 x11 x12 (some ⟨.lst u, true⟩) x14 x15 x16 x17) h = .nx (EV r hh p tn e f s pt (rows ++ [.lst u]) t x10 x11 x12 (some ⟨.lst u, false⟩) x14 x15 x16 x17) h := by
  refine s_frz.trans ?_
  have hl : rows.length < maxLen := lt_max (by omega)
  simp [evS, evEs, evE, rootVar, ownAt, mtOk, contN, frzE, evMut, hl, Cont.d, Mt.keeps]
theorem st_l5 (F : TF N p pt t u) (ht : tn < 2) (hs : ∀ k h, callN T N f_law_same [.lst [sT, .bl k], .lst [sT, .bl k]] h = .ok (.bl true, false, h)) {v : D} (hv : v ∈ nearL t) : ∃ tn' : Nat, tn' < 2 ∧
    evSs (PN N) none l_law_posts_right_5 (EV r hh p tn e f s pt rows t x10 x11 x12 x13 x14 x15 x16 (some ⟨v, false⟩)) h = .nx (EV r hh p tn' e f s pt rows t x10 x11 x12 x13 x14 x15 x16 (some ⟨v, false⟩)) h := by
  obtain ⟨k, a1, a2⟩ := F.vals v hv
  refine ⟨1 - tn, by omega, ?_⟩
  have e1 : evE (PN N) none false (.not_ (.call 21 (.cons (.call 29 (.cons (.con (.int 1)) (.cons (.lst (.cons (.var 1) (.cons (.var 17) .nil))) (.cons (.var 2) .nil)))) (.cons (.lst (.cons (.con (.str "told")) (.cons (.call 32 (.cons (.var 17) (.cons (.var 1) .nil))) .nil))) .nil))))
      (EV r hh p tn e f s pt rows t x10 x11 x12 x13 x14 x15 x16 (some ⟨v, false⟩)) h = .ok (.bl false, false, h) :=
    e_not (k := true) (e_call (es_cons' (e_call (es_cons' e_con (es_cons' (e_lst (es_cons' (e_var rfl rfl) (es_cons' (e_var rfl rfl) es_nil')) (by show 2 ≤ 100000; decide)) (es_cons' (e_var rfl rfl) es_nil'))) (a1 tn ht h)) (es_cons' (e_lst (es_cons' e_con (es_cons' (e_call (es_cons' (e_var rfl rfl) (es_cons' (e_var rfl rfl) es_nil')) (a2 h)) es_nil')) (by show 2 ≤ 100000; decide)) es_nil')) (hs k h))
  refine (ss_nx (s_frz.trans (s_ifF e1 ss_nil))).trans ((ss_nx ?_).trans ss_nil)
  refine (s_asg (d := .int ((1 - tn : Nat) : Int)) (o := false) (h1 := h) ?_ (by simp [frzE])).trans rfl
  refine e_bin e_con (e_var rfl rfl) ?_
  rw [op_sub]
  congr 3; omega
end
end K13

set_option maxHeartbeats 4000000
namespace K13
open Rw
section
variable {n r hh p tn : Nat} {e f s : Option Sl} {pt rows : List D} {t : D} {u : List D} {x10 x11 x12 x13 x14 x15 x16 x17 : Option Sl} {h : Hp}
abbrev SameB (N : Nat) : Prop := ∀ k h, callN T N f_law_same [.lst [sT, .bl k], .lst [sT, .bl k]] h = .ok (.bl true, false, h)
theorem turn_ok (F : TF (n + 3) p pt t u) (hs : SameB (n + 3)) (hp : pt.length < 1000) (ht : tn < 2) (hr : rows.all shp = true) (hu : shp (.lst u) = true) (hn : (rows.any fun y => eqv y (.lst u)) = false) (hz : rows.length < 1000)
    {a c d : Int} {b : Bool} (hb : h[r]? = some (boxC a b c d)) (hc : 0 ≤ c ∧ c < 2147483648) (hd : 0 ≤ d ∧ d < 90000000000) :
    ∃ (tn' : Nat) (a' d' : Int) (h' : Hp) (y10 y11 y12 y13 y14 y15 y16 y17 : Option Sl), tn' < 2 ∧ evSs (PN (n + 3)) none l_law_posts_right_6 (EV r hh p tn e f s pt rows t x10 x11 x12 x13 x14 x15 x16 x17) h = .nx (EV r hh p tn' e f s pt (rows ++ [.lst u]) t y10 y11 y12 y13 y14 y15 y16 y17) h' ∧
      h'[r]? = some (boxC a' b c d') ∧ d ≤ d' ∧ d' ≤ d + 30 ∧ Kp r h h' := by
  obtain ⟨hl, ⟨o, h7⟩, hz30, hw⟩ := F.near
  obtain ⟨zs, a', d', h', e1, sub, hb', hd1, hd2, kp⟩ := near_ok (n := n) hl h7 hz30 r a c d b h (hw _ _ _) hb hc hd
  obtain ⟨y15, y16, e2⟩ := st_nest (r := r) (hh := hh) (tn := tn) (e := e) (f := f) (s := s) (rows := rows) (x10 := some ⟨.lst (rowD u), false⟩) (x11 := x11) (x12 := x12) (x14 := x14) (x15 := x15) (x16 := x16) (x17 := x17) (h := h) (o := true) F hp
  obtain ⟨env', h'', e3, rfl, tn', y17, ht', rfl⟩ := forGo_all (chk := stays (.lst zs) zs) (t := .n 17) (b := evSs (PN (n + 3)) none l_law_posts_right_5) (ds := zs) (h := h') (env := EV r hh p tn e f s pt (rows ++ [.lst u]) t (some ⟨.lst (rowD u), false⟩) x11 x12 (some ⟨.lst u, false⟩) x14 y15 y16 x17)
    (fun _ env h1 => h1 = h' ∧ ∃ (tn' : Nat) (y17 : Option Sl), tn' < 2 ∧ env = EV r hh p tn' e f s pt (rows ++ [.lst u]) t (some ⟨.lst (rowD u), false⟩) x11 x12 (some ⟨.lst u, false⟩) x14 y15 y16 y17) (fun _ _ _ => rfl) ⟨rfl, tn, _, ht, rfl⟩ fun pre v post hsp env1 h1 ⟨eh, tn1, y, ht1, ee⟩ => by
      subst eh ee
      obtain ⟨tn2, ht2, e4⟩ := st_l5 (r := r) (hh := hh) (e := e) (f := f) (s := s) (pt := pt) (rows := rows ++ [.lst u]) (x10 := some ⟨.lst (rowD u), false⟩) (x11 := x11) (x12 := x12) (x13 := some ⟨.lst u, false⟩) (x14 := x14) (x15 := y15) (x16 := y16) (h := h1) F ht1 hs (sub v (by rw [hsp]; simp))
      exact ⟨rfl, _, _, _, rfl, .inl e4, rfl, tn2, _, ht2, rfl⟩
  refine ⟨tn', a', d', h'', some ⟨.lst (rowD u), false⟩, x11, x12, some ⟨.lst u, false⟩, x14, y15, y16, y17, ht', ?_, hb', hd1, hd2, kp⟩
  refine (ss_nx ((s_asg (st_row F hp ht) (by simp)).trans rfl)).trans ?_
  refine (ss_nx ((s_asg (st_due F hp) (by simp)).trans rfl)).trans ?_
  refine (ss_nx (st_if F hp hr hu hn)).trans ?_
  refine (ss_nx e2).trans ?_
  refine (ss_nx (st_app hz)).trans ?_
  exact (ss_nx ((s_for (it_seq (e_call (es_cons' (e_var rfl rfl) (es_cons' (e_var rfl rfl) es_nil')) e1) rfl)).trans e3)).trans ss_nil
end
theorem perm_map {α β : Type} (f : α → β) {ys zs : List β} (h : ys.Perm zs) : ∀ l : List α, zs = l.map f → ∃ Q : List α, Q.Perm l ∧ Q.map f = ys := by
  induction h with
  | nil =>
    intro l e
    have : l = [] := List.map_eq_nil_iff.mp e.symm
    subst this
    exact ⟨[], .refl _, rfl⟩
  | @cons x l1 l2 _ ih =>
    intro l e
    cases l with
    | nil => cases e
    | cons a l =>
      simp only [List.map_cons, List.cons.injEq] at e
      obtain ⟨Q, q1, q2⟩ := ih l e.2
      exact ⟨a :: Q, q1.cons a, by rw [List.map_cons, q2, e.1]⟩
  | @swap x y l1 =>
    intro l e
    rcases l with _ | ⟨a, _ | ⟨b, l⟩⟩
    · cases e
    · cases e
    · simp only [List.map_cons, List.cons.injEq] at e
      exact ⟨b :: a :: l, .swap a b l, by rw [List.map_cons, List.map_cons, ← e.1, ← e.2.1, ← e.2.2]⟩
  | trans _ _ ih1 ih2 =>
    intro l e
    obtain ⟨Q, q1, q2⟩ := ih2 l e
    obtain ⟨Q2, q3, q4⟩ := ih1 Q q2.symm
    exact ⟨Q2, q3.trans q1, q4⟩
/-- one told frame and what it joins stand apart from another one -/
abbrev Apart (q z : D × List D) : Prop := eqvs q.2 z.2 = false ∧ eqvs z.2 q.2 = false
/-- all told frames of p posts -/
structure PF (n p : Nat) (pt : List D) (tb : List (D × List D)) : Prop where
  tf : ∀ q ∈ tb, TF (n + 3) p pt q.1 q.2 ∧ shp (.lst q.2) = true
  ap : tb.Pairwise Apart
  len : tb.length < 100
  same : SameB (n + 3)
  hp : pt.length < 1000
section
variable {n r hh p : Nat} {e f s : Option Sl} {pt : List D} {tb : List (D × List D)}
theorem loop_ok (F : PF n p pt tb) (Q : List (D × List D)) (hQ : ∀ q ∈ Q, q ∈ tb) (ap : Q.Pairwise Apart) (hl : Q.length < 100) {tn : Nat} (ht : tn < 2) {x9 : D} {x10 x11 x12 x13 x14 x15 x16 x17 : Option Sl} {h : Hp} {src : D} (hsrc : ∀ h, stays src (Q.map (·.1)) h = true)
    {a c d : Int} {b : Bool} (hb : h[r]? = some (boxC a b c d)) (hc : 0 ≤ c ∧ c < 2147483648) (hd : 0 ≤ d ∧ d < 80000000000) (z9 : Option Sl) :
    ∃ (env' : Env) (a' d' : Int) (h' : Hp), forGo (stays src (Q.map (·.1))) (.n 9) (evSs (PN (n + 3)) none l_law_posts_right_6) (Q.map (·.1)) [some ⟨.ref r, false⟩, some ⟨.int p, false⟩, some ⟨.int tn, false⟩, some ⟨.ref hh, false⟩, e, some ⟨.lst pt, true⟩, f, s, some ⟨.lst [], true⟩, z9, x10, x11, x12, x13, x14, x15, x16, x17] h = .nx env' h' ∧
      h'[r]? = some (boxC a' b c d') ∧ d ≤ d' ∧ d' ≤ d + 3000 ∧ Kp r h h' := by
  obtain ⟨env', h', e1, pre, hpre, tn', a', d', y9, y10, y11, y12, y13, y14, y15, y16, y17, ht', ee, hb', hd1, hd2, kp⟩ := forGo_all (chk := stays src (Q.map (·.1))) (t := .n 9) (b := evSs (PN (n + 3)) none l_law_posts_right_6) (ds := Q.map (·.1)) (h := h)
    (env := [some ⟨.ref r, false⟩, some ⟨.int p, false⟩, some ⟨.int tn, false⟩, some ⟨.ref hh, false⟩, e, some ⟨.lst pt, true⟩, f, s, some ⟨.lst [], true⟩, z9, x10, x11, x12, x13, x14, x15, x16, x17])
    (fun ts env h1 => ∃ pre : List (D × List D), (ts = pre.map (·.1) ∧ pre = Q.take ts.length) ∧ ∃ (tn' : Nat) (a' d' : Int) (y9 y10 y11 y12 y13 y14 y15 y16 y17 : Option Sl), tn' < 2 ∧
      env = [some ⟨.ref r, false⟩, some ⟨.int p, false⟩, some ⟨.int tn', false⟩, some ⟨.ref hh, false⟩, e, some ⟨.lst pt, true⟩, f, s, some ⟨.lst (pre.map fun q => .lst q.2), true⟩, y9, y10, y11, y12, y13, y14, y15, y16, y17] ∧ h1[r]? = some (boxC a' b c d') ∧ d ≤ d' ∧ d' ≤ d + 30 * ts.length ∧ Kp r h h1)
    (fun _ h1 _ => hsrc h1) ⟨[], ⟨rfl, rfl⟩, tn, a, d, z9, x10, x11, x12, x13, x14, x15, x16, x17, ht, rfl, hb, by omega, by simp, .refl⟩
    fun ts x post hsp env1 h1 ⟨pre, ⟨hts, hpre⟩, tn1, a1, d1, y9, y10, y11, y12, y13, y14, y15, y16, y17, ht1, ee, hb1, hd1, hd2, kp1⟩ => by
      have hlt : ts.length < Q.length := by
        have := congrArg List.length hsp
        simp at this
        omega
      obtain ⟨q0, hq⟩ : ∃ q0, Q[ts.length]? = some q0 := ⟨_, List.getElem?_eq_getElem hlt⟩
      have hx : q0.1 = x := by
        have e2 : (Q.map (·.1))[ts.length]? = some x := by rw [hsp]; simp
        rw [List.getElem?_map, hq] at e2
        exact Option.some.inj e2
      have hmem : q0 ∈ Q := List.mem_of_getElem? hq
      obtain ⟨TFq, hsq⟩ := F.tf _ (hQ _ hmem)
      have hpl : pre.length = ts.length := by rw [hpre, List.length_take]; omega
      have rows1 : (pre.map fun q => D.lst q.2).all shp = true := by
        rw [List.all_eq_true]
        intro y hy
        obtain ⟨q, hq1, rfl⟩ := List.mem_map.mp hy
        exact (F.tf q (hQ q (by rw [hpre] at hq1; exact List.mem_of_mem_take hq1))).2
      have rows2 : ((pre.map fun q => D.lst q.2).any fun y => eqv y (.lst q0.2)) = false := by
        rw [List.any_eq_false]
        intro y hy
        obtain ⟨q, hq1, rfl⟩ := List.mem_map.mp hy
        have es : Q = Q.take ts.length ++ q0 :: Q.drop (ts.length + 1) := by
          obtain ⟨hk, e⟩ := List.getElem?_eq_some_iff.mp hq
          rw [← e, List.getElem_cons_drop, List.take_append_drop]
        rw [es] at ap
        have := (List.pairwise_append.mp ap).2.2 q (by rw [hpre] at hq1; exact hq1) _ (List.mem_cons_self ..)
        simp [eqv, this.1]
      subst ee
      obtain ⟨tn2, a2, d2, h2, z10, z11, z12, z13, z14, z15, z16, z17, ht2, e4, hb2, q1, q2, kp2⟩ := turn_ok (r := r) (hh := hh) (e := e) (f := f) (s := s) (rows := pre.map fun q => .lst q.2) (x10 := y10) (x11 := y11) (x12 := y12) (x13 := y13) (x14 := y14) (x15 := y15) (x16 := y16) (x17 := y17) TFq F.same F.hp ht1 rows1 hsq rows2 (by rw [List.length_map]; omega) hb1 hc ⟨by omega, by omega⟩
      have e7 : (pre.map fun q => D.lst q.2) ++ [.lst q0.2] = (pre ++ [q0]).map fun q => D.lst q.2 := by simp
      rw [hx, e7] at e4
      refine ⟨hsrc h1, _, _, _, rfl, .inl e4, pre ++ [q0], ⟨?_, ?_⟩, tn2, a2, d2, _, z10, z11, z12, z13, z14, z15, z16, z17, ht2, rfl, hb2, by omega, ?_, kp1.trans kp2⟩
      · rw [List.map_append, List.map_cons, hx, ← hts]; rfl
      · have e5 : List.take (ts.length + 1) Q = List.take ts.length Q ++ [q0] := by rw [List.take_add_one, hq]; rfl
        have e6 : (ts ++ [x]).length = ts.length + 1 := by simp
        rw [e6, e5, ← hpre]
      · simp only [List.length_append, List.length_cons, List.length_nil]; omega
  refine ⟨env', a', d', h', e1, hb', hd1, ?_, kp⟩
  rw [List.length_map] at hd2
  omega
end
end K13

set_option maxHeartbeats 4000000
namespace K13
open Rw
/-- all cells but these two are as they were -/
def Kp2 (r s : Nat) (h h' : Hp) : Prop := h.length ≤ h'.length ∧ ∀ i, i < h.length → i ≠ r → i ≠ s → h'[i]? = h[i]?
theorem Kp.two {r s : Nat} {h h' : Hp} (x : Kp r h h') : Kp2 r s h h' := ⟨x.1, fun i hi n _ => x.2 i hi n⟩
theorem Kp2.trans {r s : Nat} {h h' h2 : Hp} (x : Kp2 r s h h') (y : Kp2 r s h' h2) : Kp2 r s h h2 := ⟨Nat.le_trans x.1 y.1, fun i hi n m => (y.2 i (Nat.lt_of_lt_of_le hi x.1) n m).trans (x.2 i hi n m)⟩
theorem Kp2.app {r s : Nat} {h : Hp} (l : Hp) : Kp2 r s h (h ++ l) := ⟨by simp, fun i hi _ _ => by rw [List.getElem?_append_left hi]⟩
theorem Kp2.setS {r s : Nat} {h : Hp} {c : Cell} : Kp2 r s h (h.set s c) := ⟨by simp, fun i _ _ n => by rw [List.getElem?_set_ne (Ne.symm n)]⟩
theorem Kp2.new {r s m : Nat} {h h' : Hp} {c : Cell} (x : Kp2 r s h h') (hm : h.length ≤ m) : Kp2 r s h (h'.set m c) := ⟨by simpa using x.1, fun i hi a b => by rw [List.getElem?_set_ne (by omega)]; exact x.2 i hi a b⟩
theorem Kp2.at {r s m : Nat} {h h' : Hp} {c : Cell} (x : Kp2 r s h h') (e : h[m]? = some c) (a : m ≠ r) (b : m ≠ s) : h'[m]? = some c := (x.2 m (lt_of_at e) a b).trans e
theorem same_ref {n a : Nat} {ev : List D} {H : Hp} (ha : H[a]? = some (.lst ev)) (hz : ev.length < 1000) (hs : ∀ t ∈ ev, ∀ h, callN T n f_law_same [t, t] h = .ok (.bl true, false, h)) : callN T (n + 1) f_law_same [.ref a, .lst ev] H = .ok (.bl true, false, H) :=
  same_lst n (.ref a) ev ev H (seqOf_ref ha) (kindOf_ref ha) rfl (by omega) (by simp [clos, clo]) fun k x y e1 e2 => by
    rw [e1] at e2
    cases e2
    exact hs x (List.mem_of_getElem? e1) H
theorem same_told {n a b : Nat} {ev : List D} {H : Hp} (ha : H[a]? = some (.lst ev)) (hb : H[b]? = some (.lst ev)) (hz : ev.length < 1000) (hs : ∀ t ∈ ev, ∀ h, callN T n f_law_same [t, t] h = .ok (.bl true, false, h)) (h0 : ∀ h, callN T (n + 1) f_law_same [sT, sT] h = .ok (.bl true, false, h)) :
    callN T (n + 3) f_law_same [.lst [.lst [sT, .ref a], .lst [sT, .ref b]], .lst [.lst [sT, .lst ev], .lst [sT, .lst ev]]] H = .ok (.bl true, false, H) := by
  have one : ∀ c, H[c]? = some (.lst ev) → callN T (n + 2) f_law_same [.lst [sT, .ref c], .lst [sT, .lst ev]] H = .ok (.bl true, false, H) := fun c hc =>
    same_lst (n + 1) _ [sT, .ref c] [sT, .lst ev] H rfl rfl rfl (by show 2 < 100000; decide) (by simp [clos, clo]) fun k x y e1 e2 => by
      match k, e1, e2 with
      | 0, e1, e2 => cases e1; cases e2; exact h0 H
      | 1, e1, e2 => cases e1; cases e2; exact same_ref hc hz hs
      | k + 2, e1, _ => cases e1
  exact same_lst (n + 2) _ [.lst [sT, .ref a], .lst [sT, .ref b]] [.lst [sT, .lst ev], .lst [sT, .lst ev]] H rfl rfl rfl (by show 2 < 100000; decide) (by simp [clos, clo]) fun k x y e1 e2 => by
    match k, e1, e2 with
    | 0, e1, e2 => cases e1; cases e2; exact one a ha
    | 1, e1, e2 => cases e1; cases e2; exact one b hb
    | k + 2, e1, _ => cases e1
/-- what the law's loop over the numbers of posts leans on -/
structure QF (n p : Nat) (pt : List D) (tb : List (D × List D)) : Prop extends PF n p pt tb where
  pv : p = 2 ∨ p = 3 ∨ p = 4
  e1 : ∀ h, callN T (n + 3) f_law_told_frames [.int p] h = .ok (.lst (tb.map (·.1)), true, h)
  e2 : ∀ h, callN T (n + 3) f_law_partitions [.int p] h = .ok (.lst pt, true, h)
  a0 : ∀ s : Nat, s < 2 → ∀ h, callN T (n + 3) f_law_asked [.int 0, .lst [.int p], .int s] h = .ok (.lst [sT, .ref h.length], true, h ++ [.lst (tb.map (·.1))])
  s1 : ∀ t ∈ tb.map (·.1), ∀ h, callN T n f_law_same [t, t] h = .ok (.bl true, false, h)
  s0 : ∀ h, callN T (n + 1) f_law_same [sT, sT] h = .ok (.bl true, false, h)
  ln : ([.int 1, .int 6, .int 31] : List D)[p - 2]? = some (.int tb.length)
section
variable {n r hh p : Nat} {pt : List D} {tb : List (D × List D)}
theorem walk_src (F : QF n p pt tb) {tn : Nat} {e f s z9 x10 x11 x12 x13 x14 x15 x16 x17 : Option Sl} {h : Hp} {a c d : Int} {b : Bool} (hb : h[r]? = some (boxC a b c d)) (hc : 0 ≤ c ∧ c < 2147483648) (hd : 0 ≤ d ∧ d < 80000000000) :
    ∃ (Q : List (D × List D)) (src : D) (a' d' : Int) (h' : Hp), evI (PN (n + 3)) none true (.seq (.ife (.cmp .lt (.var 1) (.con (.int 4))) (.var 4) (.cutE (.call 20 (.cons (.var 0) (.cons (.var 4) .nil))) .no (.yes (.con (.int 12))))))
      [some ⟨.ref r, false⟩, some ⟨.int p, false⟩, some ⟨.int tn, false⟩, some ⟨.ref hh, false⟩, some ⟨.lst (tb.map (·.1)), false⟩, some ⟨.lst pt, true⟩, f, s, some ⟨.lst [], true⟩, z9, x10, x11, x12, x13, x14, x15, x16, x17] h = .ok (src, Q.map (·.1), h') ∧
      (∀ h, stays src (Q.map (·.1)) h = true) ∧ (∀ q ∈ Q, q ∈ tb) ∧ Q.Pairwise Apart ∧ Q.length < 100 ∧ h'[r]? = some (boxC a' b c d') ∧ d ≤ d' ∧ d' ≤ d + 100 ∧ Kp r h h' := by
  by_cases h4 : p < 4
  · have hlt : ((p : Int) < 4) := by omega
    refine ⟨tb, .lst (tb.map (·.1)), a, d, h, it_seq (o := false) (e_ifeT (o := false) (e_cmp (e_var rfl rfl) e_con ?_) (e_var rfl rfl)) rfl, fun _ => rfl, fun q hq => hq, F.ap, F.len, hb, by omega, by omega, .refl⟩
    rw [cm_ltI]
    simp [hlt]
  · have hlt : ¬ ((p : Int) < 4) := by omega
    have hl := F.len
    obtain ⟨ys, a', d', h', e1, pm, hb', hd1, hd2, kp⟩ := mixed_ok (n + 1) r (tb.map (·.1)) a c d b h hb (by rw [List.length_map]; omega) hc ⟨by omega, by rw [List.length_map]; omega⟩
    have e1 : callN T (n + 3) f_law_mixed [.ref r, .lst (tb.map (·.1))] h = .ok (.lst ys, true, h') := e1
    obtain ⟨Q, q1, q2⟩ := perm_map (·.1) pm tb rfl
    rw [List.length_map] at hd2
    refine ⟨(Q.drop 0).take (cutIx ys.length ys.length (some 12) - cutIx ys.length 0 none), .lst (cut ys none (some 12)), a', d', h', ?_, fun _ => rfl, fun q hq => q1.subset (List.mem_of_mem_drop (List.mem_of_mem_take hq)), ?_, ?_, hb', hd1, by omega, kp⟩
    · have ec : cut ys none (some 12) = ((Q.drop 0).take (cutIx ys.length ys.length (some 12) - cutIx ys.length 0 none)).map (·.1) := by
        rw [List.map_take, List.map_drop, q2]; rfl
      rw [← ec]
      refine it_seq (o := true) (e_ifeF (o := false) (e_cmp (e_var rfl rfl) e_con ?_) ?_) rfl
      · rw [cm_ltI]
        simp [hlt]
      · clear F
        generalize n + 3 = N at e1 ⊢
        have e2 : evE (PN N) none false (.call 20 (.cons (.var 0) (.cons (.var 4) .nil))) [some ⟨.ref r, false⟩, some ⟨.int p, false⟩, some ⟨.int tn, false⟩, some ⟨.ref hh, false⟩, some ⟨.lst (tb.map (·.1)), false⟩, some ⟨.lst pt, true⟩, f, s, some ⟨.lst [], true⟩, z9, x10, x11, x12, x13, x14, x15, x16, x17] h = .ok (.lst ys, true, h') :=
          e_call (es_cons' (e_var rfl rfl) (es_cons' (e_var rfl rfl) es_nil')) e1
        generalize E.call 20 (.cons (.var 0) (.cons (.var 4) .nil)) = e0 at e2 ⊢
        simp only [evE, evO, e2, R.bind_ok]
        rfl
    · have ap : Q.Pairwise Apart := (List.Perm.pairwise_iff (fun {x y} z => ⟨z.2, z.1⟩) q1).mpr F.ap
      exact (ap.sublist (List.drop_sublist ..)).sublist (List.take_sublist ..)
    · rw [List.length_take, List.length_drop, q1.length_eq]; omega
theorem posts_ok (F : QF n p pt tb) (hne : r ≠ hh) {tn : Nat} (ht : tn < 2) {held : List D} {h : Hp} (hh1 : h[hh]? = some (.lst held)) (hhl : held.length < 1000) {a c d : Int} {b : Bool} (hb : h[r]? = some (boxC a b c d)) (hc : 0 ≤ c ∧ c < 2147483648) (hd : 0 ≤ d ∧ d < 70000000000) :
    ∃ (a' d' : Int) (h' : Hp) (k : Nat), callN T (n + 4) f_law_posts_right [.ref r, .int p, .int tn, .ref hh] h = .ok (.bl true, false, h') ∧ h'[r]? = some (boxC a' b c d') ∧ d ≤ d' ∧ d' ≤ d + 4000 ∧ h'[hh]? = some (.lst (held ++ [.lst [.ref k, .lst (tb.map (·.1))]])) ∧
      h.length ≤ k ∧ h'[k]? = some (.lst (tb.map (·.1))) ∧ Kp2 r hh h h' := by
  generalize hev : tb.map (·.1) = ev
  have evl : ev.length < 100 := by rw [← hev, List.length_map]; exact F.len
  have lr := lt_of_at hb
  have lh := lt_of_at hh1
  -- the heaps
  let h1 : Hp := h ++ [.lst ev]
  let h2 : Hp := h1 ++ [.lst ev]
  have l1 : h1.length = h.length + 1 := by simp [h1]
  have l2 : h2.length = h.length + 2 := by simp [h2, h1]
  have g1 : h2[h.length]? = some (.lst ev) := by simp [h2, h1]
  have g2 : h2[h.length + 1]? = some (.lst ev) := by
    have := l1
    rw [show h2 = h1 ++ [.lst ev] from rfl, ← l1, List.getElem?_append_right (Nat.le_refl _)]; simp
  have gh : h2[hh]? = some (.lst held) := by rw [show h2 = h1 ++ [.lst ev] from rfl, List.getElem?_append_left (by omega), show h1 = h ++ [.lst ev] from rfl, List.getElem?_append_left lh]; exact hh1
  have gr : h2[r]? = some (boxC a b c d) := by rw [show h2 = h1 ++ [.lst ev] from rfl, List.getElem?_append_left (by omega), show h1 = h ++ [.lst ev] from rfl, List.getElem?_append_left lr]; exact hb
  let h3 : Hp := h2.set hh (.lst (held ++ [.lst [.ref h.length, .lst ev]]))
  have g3b : h3[h.length + 1]? = some (.lst ev) := by rw [show h3 = h2.set hh _ from rfl, List.getElem?_set_ne (by omega)]; exact g2
  let h4 : Hp := h3.set (h.length + 1) (.lst (.tup [] :: ev))
  have g4b : h4[h.length + 1]? = some (.lst (.tup [] :: ev)) := set_at g3b _
  let h5 : Hp := h4.set (h.length + 1) (.lst [])
  have g5r : h5[r]? = some (boxC a b c d) := by
    rw [show h5 = h4.set _ _ from rfl, List.getElem?_set_ne (by omega), show h4 = h3.set _ _ from rfl, List.getElem?_set_ne (by omega), show h3 = h2.set _ _ from rfl, List.getElem?_set_ne (Ne.symm hne)]; exact gr
  have g5h : h5[hh]? = some (.lst (held ++ [.lst [.ref h.length, .lst ev]])) := by
    rw [show h5 = h4.set _ _ from rfl, List.getElem?_set_ne (by omega), show h4 = h3.set _ _ from rfl, List.getElem?_set_ne (by omega)]; exact set_at gh _
  have g5k : h5[h.length]? = some (.lst ev) := by
    rw [show h5 = h4.set _ _ from rfl, List.getElem?_set_ne (by omega), show h4 = h3.set _ _ from rfl, List.getElem?_set_ne (by omega), show h3 = h2.set _ _ from rfl, List.getElem?_set_ne (by omega)]; exact g1
  have kp5 : Kp2 r hh h h5 := by
    have k2 : Kp2 r hh h h2 := (Kp2.app _).trans (Kp2.app _)
    exact ((k2.trans .setS).new (by omega)).new (by omega)
  obtain ⟨Q, src, a6, d6, h6, e6, st, hQ, ap, ql, hb6, hd61, hd62, kp6⟩ := walk_src (hh := hh) (tn := tn) (e := none) (f := some ⟨.lst [sT, .ref h.length], false⟩) (s := some ⟨.lst [sT, .ref (h.length + 1)], false⟩) (z9 := none) (x10 := none) (x11 := none) (x12 := none) (x13 := none) (x14 := none) (x15 := none) (x16 := none) (x17 := none) F g5r hc ⟨by omega, by omega⟩
  obtain ⟨env7, a7, d7, h7, e7, hb7, hd71, hd72, kp7⟩ := loop_ok (hh := hh) (e := some ⟨.lst (tb.map (·.1)), false⟩) (f := some ⟨.lst [sT, .ref h.length], false⟩) (s := some ⟨.lst [sT, .ref (h.length + 1)], false⟩) (x9 := .non) (x10 := none) (x11 := none) (x12 := none) (x13 := none) (x14 := none) (x15 := none) (x16 := none) (x17 := none) F.toPF Q hQ ap ql ht st hb6 hc ⟨by omega, by omega⟩ none
  rw [hev] at e6 e7
  refine ⟨a7, d7, h7, h.length, ?_, hb7, by omega, by omega, Kp.at kp7 (Kp.at kp6 g5h (Ne.symm hne)) (Ne.symm hne), Nat.le_refl _, Kp.at kp7 (Kp.at kp6 g5k (by omega)) (by omega), kp5.trans ((Kp.two kp6).trans (Kp.two kp7))⟩
  rw [callN_step (F := F_law_posts_right) rfl rfl]
  refine fn_rt rfl (env := [some ⟨.ref r, false⟩, some ⟨.int p, false⟩, some ⟨.int tn, false⟩, some ⟨.ref hh, false⟩, none, none, none, none, none, none, none, none, none, none, none, none, none, none]) rfl ?_
  have E1 := F.e1
  have E2 := F.e2
  have A0 := F.a0
  have LN := F.ln
  have PV := F.pv
  have SM := same_told g1 g2 (by omega) (by rw [← hev]; exact F.s1) F.s0
  rw [hev] at E1 A0
  have e2 : ([D.int 1, D.int 6, D.int 31])[p - 2]? = some (.int ev.length) := by rw [← hev, List.length_map]; exact LN
  show evSs (PN (n + 3)) none b_law_posts_right _ h = _
  clear F
  generalize n + 3 = N at E1 E2 A0 SM e6 e7 ⊢
  -- every, partitions
  refine (ss_nx (env1 := [some ⟨.ref r, false⟩, some ⟨.int p, false⟩, some ⟨.int tn, false⟩, some ⟨.ref hh, false⟩, some ⟨.lst ev, true⟩, some ⟨.lst pt, true⟩, none, none, none, none, none, none, none, none, none, none, none, none]) (h1 := h) ?_).trans ?_
  · exact (s_par2 (e_call (es_cons' (e_var rfl rfl) es_nil') (E1 h)) (e_call (es_cons' (e_var rfl rfl) es_nil') (E2 h)) (by simp) (by simp)).trans rfl
  -- first, second
  refine (ss_nx (env1 := [some ⟨.ref r, false⟩, some ⟨.int p, false⟩, some ⟨.int tn, false⟩, some ⟨.ref hh, false⟩, some ⟨.lst ev, true⟩, some ⟨.lst pt, true⟩, some ⟨.lst [sT, .ref h.length], true⟩, some ⟨.lst [sT, .ref (h.length + 1)], true⟩, none, none, none, none, none, none, none, none, none, none]) (h1 := h2) ?_).trans ?_
  · refine s_frz.trans ?_
    have q1 := A0 tn ht h
    have q2 := A0 (1 - tn) (by omega) h1
    have q3 : (1 : Int) - (tn : Int) = ((1 - tn : Nat) : Int) := by omega
    rw [l1] at q2
    refine (s_par2 (o1 := true) (o2 := true) (h1 := h1) (h2 := h2) (d1 := .lst [sT, .ref h.length]) (d2 := .lst [sT, .ref (h.length + 1)]) ?_ ?_ (by simp [frzE]) (by simp [frzE])).trans rfl
    · exact e_call (es_cons' e_con (es_cons' (e_lst (es_cons' (e_var rfl rfl) es_nil') (by show 1 ≤ 100000; decide)) (es_cons' (e_var rfl rfl) es_nil'))) q1
    · refine e_call (ds := [.int 0, .lst [.int p], .int ((1 - tn : Nat) : Int)]) (h1 := h1) (es_cons' e_con (es_cons' (e_lst (es_cons' (e_var rfl rfl) es_nil') (by show 1 ≤ 100000; decide)) (es_cons' (o := false) ?_ es_nil'))) q2
      rw [← q3]
      exact e_bin e_con (e_var rfl rfl) op_sub
  -- they are the own list
  refine (ss_nx (env1 := [some ⟨.ref r, false⟩, some ⟨.int p, false⟩, some ⟨.int tn, false⟩, some ⟨.ref hh, false⟩, some ⟨.lst ev, false⟩, some ⟨.lst pt, true⟩, some ⟨.lst [sT, .ref h.length], false⟩, some ⟨.lst [sT, .ref (h.length + 1)], false⟩, none, none, none, none, none, none, none, none, none, none]) (h1 := h2) ?_).trans ?_
  · refine s_frz.trans (s_ifF (o := false) ?_ ss_nil)
    refine e_orF (o2 := false) (e_not (k := true) (e_call (es_cons' (e_lst (es_cons' (e_var rfl rfl) (es_cons' (e_var rfl rfl) es_nil')) (by show 2 ≤ 100000; decide)) (es_cons' (e_lst (es_cons' (e_lst (es_cons' e_con (es_cons' (e_var rfl rfl) es_nil')) (by show 2 ≤ 100000; decide)) (es_cons' (e_lst (es_cons' e_con (es_cons' (e_var rfl rfl) es_nil')) (by show 2 ≤ 100000; decide)) es_nil')) (by show 2 ≤ 100000; decide)) es_nil'))
      SM)) ?_
    have q3 : (p : Int) - 2 = ((p - 2 : Nat) : Int) := by omega
    refine e_cmp (x := .int ev.length) (y := .int ev.length) (o := false) (o2 := false) (e_blt (es_cons' (e_var rfl rfl) es_nil') b_lenL) (e_idx (x := .lst [.int 1, .int 6, .int 31]) (y := .int ((p - 2 : Nat) : Int)) (o := true) (o2 := false) (e_lst (es_cons' e_con (es_cons' e_con (es_cons' e_con es_nil'))) (by show 3 ≤ 100000; decide)) ?_ (ix_at (show seqOf _ (.lst _) = some _ from rfl) e2 fun _ z => by cases z)) ?_
    · rw [← q3]
      exact e_bin (e_var rfl rfl) e_con op_sub
    · rw [cm_neI]; simp
  -- held.append
  have n2 : ∀ {c : Cell}, h3[h.length + 1]? = some c → True := fun _ => trivial
  refine (ss_nx (h1 := h3) (s_mutV rfl (e_mth (e_var rfl rfl) (kindOf_ref gh) rfl (es_cons' (e_lst (es_cons' (e_idx (x := .lst [sT, .ref h.length]) (y := .int 1) (e_var rfl rfl) e_con rfl) (es_cons' (e_blt (es_cons' (e_var rfl rfl) es_nil') b_listL) es_nil')) (by show 2 ≤ 100000; decide)) es_nil') (kindOf_ref gh) (mth_app gh (by omega))))).trans ?_
  refine (ss_nx (h1 := h4) (s_mutE rfl (e_mth (e_idx (x := .lst [sT, .ref (h.length + 1)]) (y := .int 1) (e_var rfl rfl) e_con rfl) (kindOf_ref g3b) rfl (es_cons' e_con (es_cons' (e_tup es_nil' (by show 0 ≤ 100000; decide)) es_nil')) (kindOf_ref g3b) (mth_ins0 g3b (by omega))))).trans ?_
  refine (ss_nx (h1 := h5) (s_mutE rfl (e_mth (e_idx (x := .lst [sT, .ref (h.length + 1)]) (y := .int 1) (e_var rfl rfl) e_con rfl) (kindOf_ref g4b) rfl es_nil' (kindOf_ref g4b) (mth_clr g4b)))).trans ?_
  refine (ss_nx ((s_asg (e_lst es_nil' (by show 0 ≤ 100000; decide)) (by simp)).trans rfl)).trans ?_
  refine (ss_nx (s_frz.trans ((s_for e6).trans e7))).trans ?_
  exact ss_rt (s_ret e_con)
end
end K13

set_option maxHeartbeats 4000000
namespace K13
open Rw
section
variable {N i : Nat} {xs : List D} {h : Hp} (e : h[i]? = some (.lst xs))
include e
theorem int_ref : callN T (N + 1) f_is_integer [.ref i] h = .ok (.bl false, false, h) := by
  rw [callN_step (F := F_is_integer) rfl rfl]
  exact fn_rt rfl (env := [some ⟨.ref i, false⟩]) rfl (ss_rt (s_ret (e_andF (e_blt (es_cons' (e_var rfl rfl) es_nil') (v_isi (kindOf_ref e))))))
theorem tuple_ref (m : D) : callN T (N + 1) f_is_tuple [.ref i, m] h = .ok (.bl false, false, h) := by
  rw [callN_step (F := F_is_tuple) rfl (by simp [clos, clo])]
  exact fn_rt rfl (env := [some ⟨.ref i, false⟩, some ⟨m, false⟩]) rfl (ss_rt (s_ret (e_andF (e_blt (es_cons' (e_var rfl rfl) es_nil') (v_isi (kindOf_ref e))))))
end
section
variable {N i : Nat} {h : Hp}
theorem within_ref {a b : D} (q : callN T N f_is_integer [.ref i] h = .ok (.bl false, false, h)) : callN T (N + 1) f_is_within [.ref i, a, b] h = .ok (.bl false, false, h) := by
  rw [callN_step (F := F_is_within) rfl (by simp [clos, clo])]
  exact fn_rt rfl (env := [some ⟨.ref i, false⟩, some ⟨a, false⟩, some ⟨b, false⟩]) rfl (ss_rt (s_ret (e_andF (e_call (es_cons' (e_var rfl rfl) es_nil') q))))
theorem posts_ref (q : callN T N f_is_within [.ref i, .int 2, .int 4] h = .ok (.bl false, false, h)) : callN T (N + 1) f_check_posts [.ref i] h = .exn ⟨0, [("given", .ref i)]⟩ h := by
  rw [callN_step (F := F_check_posts) rfl rfl]
  refine fn_exn rfl (env := [some ⟨.ref i, false⟩]) (env1 := [some ⟨.ref i, false⟩]) rfl (ss_exn (s_ifT (e_not (k := false) (e_call (es_cons' (e_var rfl rfl) (es_cons' (d := .int 2) (o := false) rfl (es_cons' (d := .int 4) (o := false) rfl es_nil'))) q)) (ss_exn (s_raise (e_var rfl rfl) rfl))))
theorem tf_ref (q : callN T N f_check_posts [.ref i] h = .exn ⟨0, [("given", .ref i)]⟩ h) : callN T (N + 1) f_told_frames [.ref i] h = .exn ⟨0, [("given", .ref i)]⟩ h := by
  rw [callN_step (F := F_told_frames) rfl rfl]
  exact fn_exn rfl (env := [some ⟨.ref i, false⟩]) (env1 := [some ⟨.ref i, false⟩]) rfl (ss_exn (s_exprX (e_call (es_cons' (e_var rfl rfl) es_nil') q)))
theorem it_ref {v : D} (q : callN T N f_check_posts [.ref i] h = .exn ⟨0, [("given", .ref i)]⟩ h) : callN T (N + 1) f_is_told [.ref i, v] h = .exn ⟨0, [("given", .ref i)]⟩ h := by
  rw [callN_step (F := F_is_told) rfl (by simp [clos, clo])]
  exact fn_exn rfl (env := [some ⟨.ref i, false⟩, some ⟨v, false⟩]) (env1 := [some ⟨.ref i, false⟩, some ⟨v, false⟩]) rfl (ss_exn (s_exprX (e_call (es_cons' (e_var rfl rfl) es_nil') q)))
theorem ito_ref {p : D} (q : callN T N f_is_tuple [.ref i, .int 3] h = .ok (.bl false, false, h)) : callN T (N + 1) f_is_told_of [p, .ref i] h = .ok (.bl false, false, h) := by
  rw [callN_step (F := F_is_told_of) rfl (by simp [clos, clo])]
  exact fn_rt rfl (env := [some ⟨p, false⟩, some ⟨.ref i, false⟩, none, none, none, none]) rfl (ss_rt (s_ifT (e_orT (e_not (k := false) (e_call (es_cons' (e_var rfl rfl) (es_cons' e_con es_nil')) q))) (ss_rt (s_ret e_con))))
theorem ipo_ref {m : D} (q : callN T N f_is_tuple [.ref i, m] h = .ok (.bl false, false, h)) : callN T (N + 1) f_is_partition_of [m, .ref i] h = .ok (.bl false, false, h) := by
  rw [callN_step (F := F_is_partition_of) rfl (by simp [clos, clo])]
  exact fn_rt rfl (env := [some ⟨m, false⟩, some ⟨.ref i, false⟩, none]) rfl (ss_rt (s_ifT (e_orT (e_not (k := false) (e_call (es_cons' (e_var rfl rfl) (es_cons' (e_var rfl rfl) es_nil')) q))) (ss_rt (s_ret e_con))))
theorem any_it {t b : D} {k2 k3 k4 : Bool} (t2 : callN T N f_is_told_of [.int 2, t] h = .ok (.bl k2, false, h)) (t3 : callN T N f_is_told_of [.int 3, t] h = .ok (.bl k3, false, h)) (t4 : callN T N f_is_told_of [.int 4, t] h = .ok (.bl k4, false, h)) :
    evE (T.pg (callN T N)) none false (.blt .any (.cons c_joins_0 .nil)) [some ⟨t, false⟩, some ⟨b, false⟩, none] h = .ok (.bl (k2 || (k3 || k4)), false, h) := by
  have w : evI (T.pg (callN T N)) none false (.rng2 (.glo 0) (.bin .add (.glo 1) (.con (.int 1)))) [some ⟨t, false⟩, some ⟨b, false⟩, none] h = .ok (.non, [.int 2, .int 3, .int 4], h) :=
    it_rng2 (i := 2) (j := 5) (h1 := h) (o := false) (o2 := false) rfl rfl (by decide) (by decide) (by decide) (by decide)
  have e0 : evE (T.pg (callN T N)) none false c_joins_0 [some ⟨t, false⟩, some ⟨b, false⟩, none] h = .ok (.lst [.bl k2, .bl k3, .bl k4], true, h) := by
    refine e_lcZ w rfl rfl (by show 3 ≤ 100000; decide) fun k d y e1 e2 => ?_
    match k, e1, e2 with
    | 0, e1, e2 => cases e1; cases e2; exact ⟨_, false, rfl, e_call (es_cons' (e_var rfl rfl) (es_cons' (e_var rfl rfl) es_nil')) t2⟩
    | 1, e1, e2 => cases e1; cases e2; exact ⟨_, false, rfl, e_call (es_cons' (e_var rfl rfl) (es_cons' (e_var rfl rfl) es_nil')) t3⟩
    | 2, e1, e2 => cases e1; cases e2; exact ⟨_, false, rfl, e_call (es_cons' (e_var rfl rfl) (es_cons' (e_var rfl rfl) es_nil')) t4⟩
    | k + 3, e1, _ => cases e1
  refine e_blt (es_cons' e0 es_nil') ?_
  cases k2 <;> cases k3 <;> cases k4 <;> rfl
theorem joins_odd {b : D} (q : ∀ p, callN T N f_is_told_of [p, .ref i] h = .ok (.bl false, false, h)) : callN T (N + 1) f_joins [.ref i, b] h = .exn ⟨2, [("given", .ref i)]⟩ h := by
  rw [callN_step (F := F_joins) rfl (by simp [clos, clo])]
  exact fn_exn rfl (env := [some ⟨.ref i, false⟩, some ⟨b, false⟩, none]) (env1 := [some ⟨.ref i, false⟩, some ⟨b, false⟩, none]) rfl (ss_exn (s_ifT (e_not (k := false) (any_it (q _) (q _) (q _))) (ss_exn (s_raise (e_var rfl rfl) rfl))))
theorem joins_part {as : List D} {r : List D} {k2 k3 k4 : Bool} (t2 : callN T N f_is_told_of [.int 2, .tup (.tup as :: r)] h = .ok (.bl k2, false, h)) (t3 : callN T N f_is_told_of [.int 3, .tup (.tup as :: r)] h = .ok (.bl k3, false, h)) (t4 : callN T N f_is_told_of [.int 4, .tup (.tup as :: r)] h = .ok (.bl k4, false, h)) (ht : (k2 || (k3 || k4)) = true)
    (q : callN T N f_is_partition_of [.int as.length, .ref i] h = .ok (.bl false, false, h)) : callN T (N + 1) f_joins [.tup (.tup as :: r), .ref i] h = .exn ⟨1, [("given", .ref i)]⟩ h := by
  rw [callN_step (F := F_joins) rfl (by simp [clos, clo])]
  refine fn_exn rfl (env := [some ⟨.tup (.tup as :: r), false⟩, some ⟨.ref i, false⟩, none]) (env1 := [some ⟨.tup (.tup as :: r), false⟩, some ⟨.ref i, false⟩, none]) rfl ?_
  refine (ss_nx (s_ifF (o := false) ((e_not (any_it t2 t3 t4)).trans (by rw [ht]; rfl)) ss_nil)).trans ?_
  exact ss_exn (s_ifT (e_not (k := false) (e_call (es_cons' (e_blt (es_cons' (e_idx (e_var rfl rfl) e_con (ix_at (k := 0) (show seqOf _ (.tup (.tup as :: r)) = some _ from rfl) rfl fun _ z => by cases z)) es_nil') b_lenT) (es_cons' (e_var rfl rfl) es_nil')) q)) (ss_exn (s_raise (e_var rfl rfl) rfl)))
end
/-- a refused value is told with its error's word -/
theorem asked_exn {N c s : Nat} {w : D} {args : List D} {x : D} {h : Hp} (hc : c < 3) (ho : clos [w, .lst args, .int (s : Int)] = false)
    (hb : evSs (T.pg (callN T N)) none (match F_law_asked.body with | .cons (.try_ b _) _ => b | _ => .nil) [some ⟨w, false⟩, some ⟨.lst args, false⟩, some ⟨.int (s : Int), false⟩, none] h = .exn ⟨c, [("given", x)]⟩ [some ⟨w, false⟩, some ⟨.lst args, false⟩, some ⟨.int (s : Int), false⟩, none] h) :
    callN T (N + 1) f_law_asked [w, .lst args, .int (s : Int)] h = .ok (.lst [.str (match c with | 0 => "many" | 1 => "partition" | _ => "told frame"), x], true, h) := by
  rw [callN_step (F := F_law_asked) rfl (by rw [ho]; rfl)]
  refine fn_rt rfl (env := [some ⟨w, false⟩, some ⟨.lst args, false⟩, some ⟨.int (s : Int), false⟩, none]) rfl (ss_rt (s_try_exn hb ?_))
  rcases (show c = 0 ∨ c = 1 ∨ c = 2 by omega) with rfl | rfl | rfl <;> rfl
end K13

set_option maxHeartbeats 4000000
namespace K13
open Rw
section
variable {N i s : Nat} {h : Hp}
theorem ask0_ref (hs : s < 2) (q : callN T N f_told_frames [.ref i] h = .exn ⟨0, [("given", .ref i)]⟩ h) : callN T (N + 1) f_law_asked [.int 0, .lst [.ref i], .int (s : Int)] h = .ok (.lst [.str "many", .ref i], true, h) := by
  refine asked_exn (c := 0) (by decide) (by simp [clos, clo]) ?_
  have q : callN T N 13 [.ref i] h = .exn ⟨0, [("given", .ref i)]⟩ h := q
  rcases (show s = 0 ∨ s = 1 by omega) with rfl | rfl
  · simp [F_law_asked, b_law_asked, evSs, evS, evE, evEs, ixOf, Pk.pg, q]
  · simp [F_law_asked, b_law_asked, evSs, evS, evE, evEs, ixOf, Pk.pg, permD, q]
theorem ask1_ref {v : D} (hs : s < 2) (q : callN T N f_is_told [.ref i, v] h = .exn ⟨0, [("given", .ref i)]⟩ h) : callN T (N + 1) f_law_asked [.int 1, .lst [.ref i, v], .int (s : Int)] h = .ok (.lst [.str "many", .ref i], true, h) := by
  refine asked_exn (c := 0) (by decide) (by simp [clos, clo]) ?_
  have q : callN T N 14 [.ref i, v] h = .exn ⟨0, [("given", .ref i)]⟩ h := q
  rcases (show s = 0 ∨ s = 1 by omega) with rfl | rfl
  · simp [F_law_asked, b_law_asked, evSs, evS, evE, evEs, ixOf, Pk.pg, q]
  · simp [F_law_asked, b_law_asked, evSs, evS, evE, evEs, ixOf, Pk.pg, permD, q]
theorem ask2_ref {v : D} (hs : s < 2) (q : callN T N f_joins [.ref i, v] h = .exn ⟨2, [("given", .ref i)]⟩ h) : callN T (N + 1) f_law_asked [.int 2, .lst [.ref i, v], .int (s : Int)] h = .ok (.lst [.str "told frame", .ref i], true, h) := by
  refine asked_exn (c := 2) (by decide) (by simp [clos, clo]) ?_
  have q : callN T N 16 [.ref i, v] h = .exn ⟨2, [("given", .ref i)]⟩ h := q
  rcases (show s = 0 ∨ s = 1 by omega) with rfl | rfl
  · simp [F_law_asked, b_law_asked, evSs, evS, evE, evEs, ixOf, Pk.pg, q]
  · simp [F_law_asked, b_law_asked, evSs, evS, evE, evEs, ixOf, Pk.pg, permD, q]
theorem ask3_ref {v : D} (hs : s < 2) (q : callN T N f_joins [v, .ref i] h = .exn ⟨1, [("given", .ref i)]⟩ h) : callN T (N + 1) f_law_asked [.int 2, .lst [v, .ref i], .int (s : Int)] h = .ok (.lst [.str "partition", .ref i], true, h) := by
  refine asked_exn (c := 1) (by decide) (by simp [clos, clo]) ?_
  have q : callN T N 16 [v, .ref i] h = .exn ⟨1, [("given", .ref i)]⟩ h := q
  rcases (show s = 0 ∨ s = 1 by omega) with rfl | rfl
  · simp [F_law_asked, b_law_asked, evSs, evS, evE, evEs, ixOf, Pk.pg, q]
  · simp [F_law_asked, b_law_asked, evSs, evS, evE, evEs, ixOf, Pk.pg, permD, q]
end
/-- two lists alike, item by item, wherever they lie -/
theorem same_seq (n : Nat) (g d : D) (xs ys : List D) (h : Hp) (hg : seqOf h g = some xs) (hk : kindOf h g = some 3) (hd : seqOf h d = some ys) (hk2 : kindOf h d = some 3) (hl : xs.length = ys.length) (hz : ys.length < 100000) (hc : clos [g, d] = false)
    (hi : ∀ (k : Nat) (x y : D), xs[k]? = some x → ys[k]? = some y → callN T n f_law_same [x, y] h = .ok (.bl true, false, h)) : callN T (n+1) f_law_same [g, d] h = .ok (.bl true, false, h) := by
  rw [callN_step (F := F_law_same) rfl (by rw [hc]; rfl)]
  have ns : ∀ s, g ≠ .str s := fun s z => by rw [z] at hg; cases hg
  have nd : ∀ s, d ≠ .str s := fun s z => by rw [z] at hd; cases hd
  have nn : isNone d = false := by cases d <;> first | rfl | cases hd
  have ec : ∀ z, evE (T.pg (callN T n)) none false c_law_same_1 [some ⟨g, false⟩, some ⟨d, false⟩, z] h = .ok (.lst [], true, h) := fun z => by
    have q := e_lcIf (P := T.pg (callN T n)) (cx := none) (cap := false) (e := .var 2) (c := .not_ (.call 21 (.cons (.idx (.var 0) (.var 2)) (.cons (.idx (.var 1) (.var 2)) .nil)))) (t := .n 2) (w := .rng1 (.blt .len (.cons (.var 1) .nil))) (own := [2])
      (env := [some ⟨g, false⟩, some ⟨d, false⟩, z]) (h := h) (h1 := h) (src := .non) (xs := rng 0 ys.length) (g := fun d => d) (p := fun _ => false)
      (it_rng1 (i := (ys.length : Int)) (o := false) (e_blt (es_cons' (e_var rfl rfl) es_nil') (v_len hd)) (by omega) (by omega)) rfl (by rw [rng_len]; exact le_max (by omega)) fun v hv => by
        obtain ⟨k, hk2, rfl⟩ := rng_mem hv
        have ex : xs[k]? = some xs[k] := List.getElem?_eq_getElem (by omega)
        have ey : ys[k]? = some ys[k] := List.getElem?_eq_getElem hk2
        refine ⟨[some ⟨g, false⟩, some ⟨d, false⟩, some ⟨.int k, false⟩], false, rfl, ?_, fun z => by cases z⟩
        exact e_not (k := true) (e_call (es_cons' (e_idx (e_var rfl rfl) (e_var rfl rfl) (ix_at hg ex ns)) (es_cons' (e_idx (e_var rfl rfl) (e_var rfl rfl) (ix_at hd ey nd)) es_nil')) (hi k _ _ ex ey))
    have e0 : ((rng 0 ys.length).filter fun _ => false).map (fun d => d) = [] := by simp
    rw [e0] at q
    exact q
  refine fn_rt rfl (env := [some ⟨g, false⟩, some ⟨d, false⟩, none]) rfl ?_
  have is1 : ∀ t, evE (T.pg (callN T n)) none false (.blt (.isi [t]) (.cons (.var 1) .nil)) [some ⟨g, false⟩, some ⟨d, false⟩, none] h = .ok (.bl ([t].any (isKind 3)), false, h) := fun t => e_blt (es_cons' (e_var rfl rfl) es_nil') (v_isi hk2)
  have is0 : ∀ t, evE (T.pg (callN T n)) none false (.blt (.isi [t]) (.cons (.var 0) .nil)) [some ⟨g, false⟩, some ⟨d, false⟩, none] h = .ok (.bl ([t].any (isKind 3)), false, h) := fun t => e_blt (es_cons' (e_var rfl rfl) es_nil') (v_isi hk)
  refine (ss_nx (s_ifF (o := false) (h1 := h) (e_orF (o2 := false) (e_cmp (e_var rfl rfl) e_con (by rw [cm_isN, nn])) (is1 1)) ss_nil)).trans ?_
  refine (ss_nx (s_ifF (o := false) (h1 := h) (is1 0) ss_nil)).trans ?_
  refine (ss_nx (s_ifF (o := false) (h1 := h) (is1 2) ss_nil)).trans ?_
  refine (ss_nx (s_ifF (o := false) (h1 := h) (e_orF (o2 := false) (e_cmp (is0 3) (is1 3) rfl) (e_cmp (is0 4) (is1 4) rfl)) ss_nil)).trans ?_
  refine (ss_nx (s_ifF (o := false) (h1 := h) (e_not (k := true) (e_blt (es_cons' (e_var rfl rfl) es_nil') (v_isi hk2))) ss_nil)).trans ?_
  refine ss_rt (s_ret ?_)
  refine e_andT (o := false) (o2 := false) (h1 := h) (e_cmp (e_blt (es_cons' (e_var rfl rfl) es_nil') (v_len hg)) (e_blt (es_cons' (e_var rfl rfl) es_nil') (v_len hd)) ?_) (e_cmp (ec _) (show _ = R.ok (D.lst [], true, h) from rfl) cm_eqL0)
  rw [cm_eqI, hl]; simp
end K13

set_option maxHeartbeats 4000000
namespace Rw
mutual
theorem D.beq_eq : ∀ {a b : D}, D.beq a b = true → a = b
  | .non, b, h => by cases b <;> first | rfl | simp [D.beq] at h
  | .bl x, b, h => by cases b <;> first | (simp [D.beq] at h; done) | (simp only [D.beq, beq_iff_eq] at h; rw [h])
  | .int x, b, h => by cases b <;> first | (simp [D.beq] at h; done) | (simp only [D.beq, beq_iff_eq] at h; rw [h])
  | .str x, b, h => by cases b <;> first | (simp [D.beq] at h; done) | (simp only [D.beq, beq_iff_eq] at h; rw [h])
  | .tup x, b, h => by cases b <;> first | (simp [D.beq] at h; done) | (simp only [D.beq] at h; rw [D.beqs_eq h])
  | .lst x, b, h => by cases b <;> first | (simp [D.beq] at h; done) | (simp only [D.beq] at h; rw [D.beqs_eq h])
  | .dct x y, b, h => by cases b <;> first | (simp [D.beq] at h; done) | (simp only [D.beq, Bool.and_eq_true] at h; rw [D.beqs_eq h.1, D.beqs_eq h.2])
  | .set x, b, h => by cases b <;> first | (simp [D.beq] at h; done) | (simp only [D.beq] at h; rw [D.beqs_eq h])
  | .ref x, b, h => by cases b <;> first | (simp [D.beq] at h; done) | (simp only [D.beq, beq_iff_eq] at h; rw [h])
theorem D.beqs_eq : ∀ {a b : List D}, D.beqs a b = true → a = b
  | [], [], _ => rfl
  | [], _ :: _, h => by simp [D.beqs] at h
  | _ :: _, [], h => by simp [D.beqs] at h
  | x :: xs, y :: ys, h => by
    simp only [D.beqs, Bool.and_eq_true] at h
    rw [D.beq_eq h.1, D.beqs_eq h.2]
end
end Rw
namespace K13
open Rw
abbrev t01 : D := .tup [.int 0, .int 1]
abbrev tt01 : D := .tup [t01, .int 0, .int 1]
abbrev t011 : D := .tup [.tup [.int 0, .int 1, .int 1], .int 0, .int 1]
/-- values of the three lists; L0 .. L4: the lists among them -/
def cL (L0 : Nat) : List D := [.int 0, .int 1, .int 5, .int (-2), .bl true, .non, .str "2", .ref L0, .tup [.int 3], .int 100000000000000000000]
def oL (L1 L2 : Nat) : List D := [.non, .int 7, .ref L1, .tup [.lst [.int 0, .int 1], .int 0, .int 1], .tup [t01, .int 1, .int 0], .tup [t01, .int 0, .int 0], .tup [.tup [.int 0, .int 0], .int 0, .int 1], .tup [t01, .int 0], .tup [.tup [.int 0], .int 0, .int 1], .tup [.tup [.int 0, .int 1, .int 2, .int 3, .int 4], .int 0, .int 1], .str "", .dct [.str "a"] [.int 1], .ref L2]
def wL (L3 L4 : Nat) : List D := [.non, .int 7, .ref L3, t01, .tup [.int 0, .int 1, .int 3], .tup [.int 1, .int 0, .int 0], .tup [.int 0, .int 1, .int 2, .int 3], .tup [.int 0, .int 0, .int (-1)], .tup [.int 0, .bl true, .int 1], .tup [.int 0, .non, .int 0], .str "", .dct [.str "a"] [.int 1], .ref L4, .tup []]
def noL : D → Bool
  | .non => true | .bl _ => true | .int _ => true | .str _ => true | .tup _ => true | .dct _ _ => true
  | _ => false
def isRef : D → Bool
  | .ref _ => true
  | _ => false
def chkA (w : Int) (args : List D) (word : PySem.Str) (x : D) (s : Int) : Bool := clos args && match callN T 10 f_law_asked [.int w, .lst args, .int s] [] with
  | .ok (.lst [.str wd, y], true, _) => wd == word && D.beq y x
  | _ => false
def chkS (x : D) : Bool := clo x && noL x && isB (callN T 10 f_law_same [x, x] []) (.bl true)
theorem chkA_ok {w : Int} {args : List D} {word : PySem.Str} {x : D} {s : Int} (h : chkA w args word x s = true) (hx : clo x = true) (H : Hp) : callN T 10 f_law_asked [.int w, .lst args, .int s] H = .ok (.lst [.str word, x], true, H) := by
  unfold chkA at h
  rw [Bool.and_eq_true] at h
  obtain ⟨h1, h2⟩ := h
  split at h2
  · rename_i wd y g e
    rw [Bool.and_eq_true] at h2
    have e1 := eq_of_beq h2.1
    have e2 := D.beq_eq h2.2
    subst e1 e2
    exact callN_any (F := F_law_asked) rfl (by simp [F_law_asked, clos, clo, h1]) (by simp [clos, clo, hx]) e
  · cases h2
theorem chkS_ok {x : D} (h : chkS x = true) : clo x = true ∧ noL x = true ∧ ∀ H, callN T 10 f_law_same [x, x] H = .ok (.bl true, false, H) := by
  unfold chkS at h
  rw [Bool.and_eq_true, Bool.and_eq_true] at h
  obtain ⟨⟨h1, h2⟩, h3⟩ := h
  obtain ⟨b, g, e1, e2⟩ := isB_ok h3
  cases e1
  exact ⟨h1, h2, fun H => callN_any (F := F_law_same) rfl (by simp [F_law_same, clos, h1]) rfl e2⟩
theorem kc0 : (cL 0).all (fun x => isRef x || (chkS x && chkA 0 [x] "many" x 0 && chkA 0 [x] "many" x 1)) = true := by decide +kernel
theorem kc1 : (cL 0).all (fun x => isRef x || (chkA 1 [x, tt01] "many" x 0 && chkA 1 [x, tt01] "many" x 1)) = true := by decide +kernel
theorem ko2 : (oL 0 0).all (fun x => isRef x || (chkS x && chkA 2 [x, .lst [.int 7]] "told frame" x 0 && chkA 2 [x, .lst [.int 7]] "told frame" x 1)) = true := by decide +kernel
theorem ko4 : (oL 0 0).all (fun x => isRef x || (chkA 2 [x, t01] "told frame" x 0 && chkA 2 [x, t01] "told frame" x 1)) = true := by decide +kernel
theorem kw3 : (wL 0 0).all (fun x => isRef x || (chkS x && chkA 2 [t011, x] "partition" x 0 && chkA 2 [t011, x] "partition" x 1)) = true := by decide +kernel
/-- what the cells may hold -/
def wW : List D := [.str "more", .int 2, .int 0, .int 1, t01]
theorem kW : wW.all (fun x => clo x && isB (callN T 9 f_law_same [x, x] []) (.bl true)) = true := by decide +kernel
theorem kT : isB (callN T 8 f_is_told_of [.int 2, t011] []) (.bl false) && isB (callN T 8 f_is_told_of [.int 3, t011] []) (.bl true) && isB (callN T 8 f_is_told_of [.int 4, t011] []) (.bl false) = true := by decide +kernel
end K13

set_option maxHeartbeats 4000000
namespace K13
open Rw
/-- a cell of refused lists -/
abbrev CellOk (m : Nat) (H : Hp) (i : Nat) : Prop := ∃ xs, H[i]? = some (.lst xs) ∧ (∀ x ∈ xs, x ∈ wW) ∧ xs.length ≤ m
structure AskOk (N : Nat) (R : List Nat) (a : D) : Prop where
  ex : ∃ (w : Int) (args : List D) (word : PySem.Str) (x : D) (k : Nat), a = .lst [.int w, .lst args, .str word, .int k] ∧ args[k]? = some x ∧ shp (.str word) = true ∧
    (∀ H, (∀ i ∈ R, ∃ xs, H[i]? = some (.lst xs)) → ∀ s : Nat, s < 2 → callN T N f_law_asked [.int w, .lst args, .int (s : Int)] H = .ok (.lst [.str word, x], true, H)) ∧
    ((noL x = true ∧ ∀ H, callN T N f_law_same [x, x] H = .ok (.bl true, false, H)) ∨ ∃ i ∈ R, x = .ref i)
abbrev TakeOk (N : Nat) : Prop := ∀ (r : Nat) (m a c d : Int) (b : Bool) (h : Hp), h[r]? = some (boxC a b c d) → 0 < m ∧ m < 1073741824 → 0 ≤ c ∧ c < 2147483648 → 0 ≤ d ∧ d < 100000000000 →
   ∃ v a' d', callN T N f_law_take [.ref r, .int m] h = .ok (.int v, false, h.set r (boxC a' b c d')) ∧ 0 ≤ v ∧ v < m ∧ d ≤ d' ∧ d' ≤ d + 1
theorem take_all (n : Nat) : TakeOk (n + 1) := fun r m a c d b h h1 h2 h3 h4 => take_ok n r m a c d b h h1 h2 h3 h4
section
variable {N r : Nat} {R : List Nat} {H : Hp}
theorem noL_kind {x : D} (hx : noL x = true) : ∃ k, kindOf H x = some k ∧ [3].any (isKind k) = false := by
  cases x <;> first | (cases hx; done) | exact ⟨_, rfl, rfl⟩
theorem ask_turn (hs : ∀ m H i, CellOk m H i → m < 1000 → callN T N f_law_same [.ref i, .ref i] H = .ok (.bl true, false, H)) {a : D} (hA : AskOk N R a) {m : Nat} (hm : m < 900) (hR : ∀ i ∈ R, CellOk m H i) {tn : Nat} (ht : tn < 2) {x0 x2 x3 x4 x5 x6 x7 x8 x9 x10 x11 x12 : Option Sl} :
    ∃ (env1 : Env) (tn' : Nat) (y7 y8 y9 y10 y11 y12 : Option Sl) (H' : Hp), asgT (.t (.cons (.n 7) (.cons (.n 8) (.cons (.n 9) (.cons (.n 10) .nil))))) a [x0, some ⟨.int tn, false⟩, x2, x3, x4, x5, x6, x7, x8, x9, x10, x11, x12] = some env1 ∧ tn' < 2 ∧
      evSs (T.pg (callN T N)) none l_law_refused_1 env1 H = .nx [x0, some ⟨.int tn', false⟩, x2, x3, x4, x5, x6, y7, y8, y9, y10, y11, y12] H' ∧ (∀ i ∈ R, CellOk (m + 1) H' i) ∧ H'.length = H.length ∧ ∀ j, j ∉ R → H'[j]? = H[j]? := by
  obtain ⟨w, args, word, x, k, rfl, hx, hw, hq, hor⟩ := hA.ex
  have q := hq H (fun i hi => (hR i hi).elim fun xs z => ⟨xs, z.1⟩) tn ht
  have st1 : evS (T.pg (callN T N)) none (.frz [1] (.par [11, 12] (.cons (.call 29 (.cons (.var 7) (.cons (.var 8) (.cons (.var 1) .nil)))) (.cons (.idx (.var 8) (.var 10)) .nil)))) [x0, some ⟨.int tn, false⟩, x2, x3, x4, x5, x6, some ⟨.int w, false⟩, some ⟨.lst args, false⟩, some ⟨.str word, false⟩, some ⟨.int k, false⟩, x11, x12] H =
      .nx [x0, some ⟨.int tn, false⟩, x2, x3, x4, x5, x6, some ⟨.int w, false⟩, some ⟨.lst args, false⟩, some ⟨.str word, false⟩, some ⟨.int k, false⟩, some ⟨.lst [.str word, x], true⟩, some ⟨x, false⟩] H :=
    s_frz.trans ((s_par2 (e_call (es_cons' (e_var rfl rfl) (es_cons' (e_var rfl rfl) (es_cons' (e_var rfl rfl) es_nil'))) q) (e_idx (e_var rfl rfl) (e_var rfl rfl) (ix_at (show seqOf H (.lst args) = some args from rfl) hx fun _ z => by cases z)) (by simp [frzE]) (by simp [frzE])).trans rfl)
  have tail : ∀ H', callN T N f_law_same [x, x] H' = .ok (.bl true, false, H') →
      evSs (T.pg (callN T N)) none (.cons (.frz [12] (.ifs (.or_ (.cmp .ne (.idx (.var 11) (.con (.int 0))) (.var 9)) (.not_ (.call 21 (.cons (.idx (.var 11) (.con (.int 1))) (.cons (.var 12) .nil))))) (.cons (.ret (.con (.bl false))) .nil) .nil)) (.cons (.asg (.n 1) (.bin .sub (.con (.int 1)) (.var 1))) .nil))
        [x0, some ⟨.int tn, false⟩, x2, x3, x4, x5, x6, some ⟨.int w, false⟩, some ⟨.lst args, false⟩, some ⟨.str word, false⟩, some ⟨.int k, false⟩, some ⟨.lst [.str word, x], true⟩, some ⟨x, false⟩] H' =
      .nx [x0, some ⟨.int ((1 - tn : Nat) : Int), false⟩, x2, x3, x4, x5, x6, some ⟨.int w, false⟩, some ⟨.lst args, false⟩, some ⟨.str word, false⟩, some ⟨.int k, false⟩, some ⟨.lst [.str word, x], true⟩, some ⟨x, false⟩] H' := fun H' hsm => by
    refine (ss_nx (s_frz.trans (s_ifF (o := false) (h1 := H') ?_ ss_nil))).trans ((ss_nx ?_).trans ss_nil)
    · refine e_orF (o2 := false) (h1 := H') (e_cmp (k := false) (e_idx (x := .lst [.str word, x]) (y := .int 0) (e_var rfl rfl) e_con rfl) (e_var rfl rfl) ?_) (e_not (k := true) (e_call (es_cons' (e_idx (x := .lst [.str word, x]) (y := .int 1) (e_var rfl rfl) e_con rfl) (es_cons' (e_var rfl rfl) es_nil')) hsm))
      rw [cm_neD hw hw]
      simp [eqv]
    · refine (s_asg (d := .int ((1 - tn : Nat) : Int)) (o := false) (h1 := H') ?_ (by simp [frzE])).trans rfl
      refine e_bin e_con (e_var rfl rfl) ?_
      rw [op_sub]
      congr 3; omega
  rcases hor with ⟨hn, hsm⟩ | ⟨i, hi, rfl⟩
  · obtain ⟨kk, k1, k2⟩ := noL_kind (H := H) hn
    refine ⟨_, 1 - tn, some ⟨.int w, false⟩, some ⟨.lst args, false⟩, some ⟨.str word, false⟩, some ⟨.int k, false⟩, some ⟨.lst [.str word, x], true⟩, some ⟨x, false⟩, H, rfl, by omega, ?_, fun i hi => (hR i hi).elim fun xs z => ⟨xs, z.1, z.2.1, by omega⟩, rfl, fun _ _ => rfl⟩
    refine (ss_nx st1).trans ?_
    refine (ss_nx (s_ifF (o := false) (e_blt (es_cons' (e_var rfl rfl) es_nil') (by rw [v_isi k1, k2])) ss_nil)).trans ?_
    exact tail H (hsm H)
  · obtain ⟨xs, z1, z2, z3⟩ := hR i hi
    have c1 : CellOk (m + 1) (H.set i (.lst (.str "more" :: xs))) i := ⟨_, set_at z1 _, fun y hy => by
      rcases List.mem_cons.mp hy with rfl | hy
      · exact List.mem_cons_self ..
      · exact z2 y hy, by simp only [List.length_cons]; omega⟩
    refine ⟨_, 1 - tn, some ⟨.int w, false⟩, some ⟨.lst args, false⟩, some ⟨.str word, false⟩, some ⟨.int k, false⟩, some ⟨.lst [.str word, .ref i], true⟩, some ⟨.ref i, false⟩, H.set i (.lst (.str "more" :: xs)), rfl, by omega, ?_, fun j hj => ?_, by simp, fun j hj => ?_⟩
    · refine (ss_nx st1).trans ?_
      refine (ss_nx (s_ifT (o := false) (h1 := H) (e_blt (es_cons' (e_var rfl rfl) es_nil') ((v_isi (kindOf_ref z1)).trans rfl)) ((ss_nx (s_mutV rfl (e_mth (e_var rfl rfl) (kindOf_ref z1) rfl (es_cons' e_con (es_cons' e_con es_nil')) (kindOf_ref z1) (mth_ins0 z1 (by omega))))).trans ss_nil))).trans ?_
      exact tail _ (hs (m + 1) _ i c1 (by omega))
    · by_cases ej : j = i
      · rw [ej]; exact c1
      · obtain ⟨ys, w1, w2, w3⟩ := hR j hj
        exact ⟨ys, by rw [List.getElem?_set_ne (Ne.symm ej)]; exact w1, w2, by omega⟩
    · rw [List.getElem?_set_ne (fun z : i = j => hj (by rw [← z]; exact hi))]
theorem pick_ok (ht : TakeOk N) {cap : Bool} {env : Env} {v : Nat} {L : List D} {o : Bool} {m : Int} (hm : L.length = m) (hm2 : 0 < m ∧ m < 1000) (e0 : env[0]? = some (some ⟨.ref r, false⟩)) (e1 : env[v]? = some (some ⟨.lst L, o⟩)) {a c d : Int} {b : Bool} (hb : H[r]? = some (boxC a b c d)) (hc : 0 ≤ c ∧ c < 2147483648) (hd : 0 ≤ d ∧ d < 90000000000) :
    ∃ x ∈ L, ∃ a' d', evE (T.pg (callN T N)) none cap (.idx (.var v) (.call 19 (.cons (.var 0) (.cons (.con (.int m)) .nil)))) env H = .ok (x, false, H.set r (boxC a' b c d')) ∧ d ≤ d' ∧ d' ≤ d + 1 := by
  obtain ⟨i, a', d', q, i1, i2, i3, i4⟩ := ht r m a c d b H hb ⟨hm2.1, by omega⟩ hc ⟨hd.1, by omega⟩
  obtain ⟨k, rfl⟩ : ∃ k : Nat, i = k := ⟨i.toNat, by omega⟩
  have hk : k < L.length := by omega
  refine ⟨L[k], List.getElem_mem hk, a', d', ?_, i3, i4⟩
  exact e_idx (e_var e1 rfl) (e_call (es_cons' (e_var e0 rfl) (es_cons' e_con es_nil')) q) (ix_at (show seqOf _ (.lst L) = some L from rfl) (List.getElem?_eq_getElem hk) fun _ z => by cases z)
end
end K13

set_option maxHeartbeats 4000000
namespace K13
open Rw
theorem same_cell {m i : Nat} {H : Hp} (hc : CellOk m H i) (hm : m < 1000) : callN T 10 f_law_same [.ref i, .ref i] H = .ok (.bl true, false, H) := by
  obtain ⟨xs, e, w, l⟩ := hc
  refine same_seq 9 _ _ xs xs H (seqOf_ref e) (kindOf_ref e) (seqOf_ref e) (kindOf_ref e) rfl (by omega) (by simp [clos, clo]) fun k x y e1 e2 => ?_
  rw [e1] at e2
  cases e2
  have := List.all_eq_true.mp kW x (w x (List.mem_of_getElem? e1))
  rw [Bool.and_eq_true] at this
  obtain ⟨b, g, q1, q2⟩ := isB_ok this.2
  cases q1
  exact callN_any (F := F_law_same) rfl (by simp [F_law_same, clos, this.1]) rfl q2
section
variable {R : List Nat}
abbrev Lists (R : List Nat) (H : Hp) : Prop := ∀ i ∈ R, ∃ xs, H[i]? = some (.lst xs)
theorem closed_or {L : Nat → List D} {L0 : Nat} {x : D} : True := trivial
theorem c_split {L0 : Nat} {x : D} (h : x ∈ cL L0) : x = .ref L0 ∨ (x ∈ cL 0 ∧ isRef x = false) := by
  simp only [cL, List.mem_cons, List.not_mem_nil, or_false] at h ⊢
  rcases h with rfl | rfl | rfl | rfl | rfl | rfl | rfl | rfl | rfl | rfl <;> simp [isRef]
theorem o_split {L1 L2 : Nat} {x : D} (h : x ∈ oL L1 L2) : (x = .ref L1 ∨ x = .ref L2) ∨ (x ∈ oL 0 0 ∧ isRef x = false) := by
  simp only [oL, List.mem_cons, List.not_mem_nil, or_false] at h ⊢
  rcases h with rfl | rfl | rfl | rfl | rfl | rfl | rfl | rfl | rfl | rfl | rfl | rfl | rfl <;> simp [isRef]
theorem w_split {L1 L2 : Nat} {x : D} (h : x ∈ wL L1 L2) : (x = .ref L1 ∨ x = .ref L2) ∨ (x ∈ wL 0 0 ∧ isRef x = false) := by
  simp only [wL, List.mem_cons, List.not_mem_nil, or_false] at h ⊢
  rcases h with rfl | rfl | rfl | rfl | rfl | rfl | rfl | rfl | rfl | rfl | rfl | rfl | rfl | rfl <;> simp [isRef]
theorem two {P : Nat → Prop} (h0 : P 0) (h1 : P 1) : ∀ s : Nat, s < 2 → P s := fun s hs => by
  rcases (show s = 0 ∨ s = 1 by omega) with rfl | rfl
  · exact h0
  · exact h1
theorem posts_exn {i : Nat} {xs : List D} {H : Hp} (e : H[i]? = some (.lst xs)) : callN T 8 f_check_posts [.ref i] H = .exn ⟨0, [("given", .ref i)]⟩ H := posts_ref (within_ref (int_ref e))
theorem told_no {i : Nat} {xs : List D} {H : Hp} (e : H[i]? = some (.lst xs)) (p : D) : callN T 8 f_is_told_of [p, .ref i] H = .ok (.bl false, false, H) := ito_ref (tuple_ref e _)
theorem ask_c0 {L0 : Nat} (hL : L0 ∈ R) {x : D} (h : x ∈ cL L0) : AskOk 10 R (.lst [.int 0, .lst [x], .str "many", .int 0]) := by
  refine ⟨0, [x], "many", x, 0, rfl, rfl, by decide +kernel, ?_⟩
  rcases c_split h with rfl | ⟨hx, hr⟩
  · exact ⟨fun H hR s hs => (hR L0 hL).elim fun xs e => ask0_ref hs (tf_ref (posts_exn e)), .inr ⟨L0, hL, rfl⟩⟩
  · have := List.all_eq_true.mp kc0 x hx
    rw [hr, Bool.false_or, Bool.and_eq_true, Bool.and_eq_true] at this
    obtain ⟨c, n, s⟩ := chkS_ok this.1.1
    exact ⟨fun H _ => two (P := fun s => callN T 10 f_law_asked [.int 0, .lst [x], .int (s : Int)] H = .ok (.lst [.str "many", x], true, H)) (chkA_ok this.1.2 c H) (chkA_ok this.2 c H), .inl ⟨n, s⟩⟩
theorem c_same {x : D} (h : x ∈ cL 0) (hr : isRef x = false) : clo x = true ∧ noL x = true ∧ ∀ H, callN T 10 f_law_same [x, x] H = .ok (.bl true, false, H) := by
  have := List.all_eq_true.mp kc0 x h
  rw [hr, Bool.false_or, Bool.and_eq_true, Bool.and_eq_true] at this
  exact chkS_ok this.1.1
theorem o_same {x : D} (h : x ∈ oL 0 0) (hr : isRef x = false) : clo x = true ∧ noL x = true ∧ ∀ H, callN T 10 f_law_same [x, x] H = .ok (.bl true, false, H) := by
  have := List.all_eq_true.mp ko2 x h
  rw [hr, Bool.false_or, Bool.and_eq_true, Bool.and_eq_true] at this
  exact chkS_ok this.1.1
theorem ask_c1 {L0 : Nat} (hL : L0 ∈ R) {x : D} (h : x ∈ cL L0) : AskOk 10 R (.lst [.int 1, .lst [x, tt01], .str "many", .int 0]) := by
  refine ⟨1, [x, tt01], "many", x, 0, rfl, rfl, by decide +kernel, ?_⟩
  rcases c_split h with rfl | ⟨hx, hr⟩
  · exact ⟨fun H hR s hs => (hR L0 hL).elim fun xs e => ask1_ref hs (it_ref (posts_exn e)), .inr ⟨L0, hL, rfl⟩⟩
  · have := List.all_eq_true.mp kc1 x hx
    rw [hr, Bool.false_or, Bool.and_eq_true] at this
    obtain ⟨c, n, s⟩ := c_same hx hr
    exact ⟨fun H _ => two (P := fun s => callN T 10 f_law_asked [.int 1, .lst [x, tt01], .int (s : Int)] H = .ok (.lst [.str "many", x], true, H)) (chkA_ok this.1 c H) (chkA_ok this.2 c H), .inl ⟨n, s⟩⟩
theorem ask_o2 {L1 L2 : Nat} (h1 : L1 ∈ R) (h2 : L2 ∈ R) {x : D} (h : x ∈ oL L1 L2) : AskOk 10 R (.lst [.int 2, .lst [x, .lst [.int 7]], .str "told frame", .int 0]) := by
  refine ⟨2, [x, .lst [.int 7]], "told frame", x, 0, rfl, rfl, by decide +kernel, ?_⟩
  have rf : ∀ L ∈ R, (∀ H, Lists R H → ∀ s : Nat, s < 2 → callN T 10 f_law_asked [.int 2, .lst [.ref L, .lst [.int 7]], .int (s : Int)] H = .ok (.lst [.str "told frame", .ref L], true, H)) := fun L hL H hR s hs => (hR L hL).elim fun xs e => ask2_ref hs (joins_odd (told_no e))
  rcases o_split h with (rfl | rfl) | ⟨hx, hr⟩
  · exact ⟨rf _ h1, .inr ⟨_, h1, rfl⟩⟩
  · exact ⟨rf _ h2, .inr ⟨_, h2, rfl⟩⟩
  · have := List.all_eq_true.mp ko2 x hx
    rw [hr, Bool.false_or, Bool.and_eq_true, Bool.and_eq_true] at this
    obtain ⟨c, n, s⟩ := o_same hx hr
    exact ⟨fun H _ => two (P := fun s => callN T 10 f_law_asked [.int 2, .lst [x, .lst [.int 7]], .int (s : Int)] H = .ok (.lst [.str "told frame", x], true, H)) (chkA_ok this.1.2 c H) (chkA_ok this.2 c H), .inl ⟨n, s⟩⟩
theorem ask_o4 {L1 L2 : Nat} (h1 : L1 ∈ R) (h2 : L2 ∈ R) {x : D} (h : x ∈ oL L1 L2) : AskOk 10 R (.lst [.int 2, .lst [x, t01], .str "told frame", .int 0]) := by
  refine ⟨2, [x, t01], "told frame", x, 0, rfl, rfl, by decide +kernel, ?_⟩
  have rf : ∀ L ∈ R, (∀ H, Lists R H → ∀ s : Nat, s < 2 → callN T 10 f_law_asked [.int 2, .lst [.ref L, t01], .int (s : Int)] H = .ok (.lst [.str "told frame", .ref L], true, H)) := fun L hL H hR s hs => (hR L hL).elim fun xs e => ask2_ref hs (joins_odd (told_no e))
  rcases o_split h with (rfl | rfl) | ⟨hx, hr⟩
  · exact ⟨rf _ h1, .inr ⟨_, h1, rfl⟩⟩
  · exact ⟨rf _ h2, .inr ⟨_, h2, rfl⟩⟩
  · have := List.all_eq_true.mp ko4 x hx
    rw [hr, Bool.false_or, Bool.and_eq_true] at this
    obtain ⟨c, n, s⟩ := o_same hx hr
    exact ⟨fun H _ => two (P := fun s => callN T 10 f_law_asked [.int 2, .lst [x, t01], .int (s : Int)] H = .ok (.lst [.str "told frame", x], true, H)) (chkA_ok this.1 c H) (chkA_ok this.2 c H), .inl ⟨n, s⟩⟩
theorem ask_w3 {L3 L4 : Nat} (h1 : L3 ∈ R) (h2 : L4 ∈ R) {x : D} (h : x ∈ wL L3 L4) : AskOk 10 R (.lst [.int 2, .lst [t011, x], .str "partition", .int 1]) := by
  refine ⟨2, [t011, x], "partition", x, 1, rfl, rfl, by decide +kernel, ?_⟩
  have rf : ∀ L ∈ R, (∀ H, Lists R H → ∀ s : Nat, s < 2 → callN T 10 f_law_asked [.int 2, .lst [t011, .ref L], .int (s : Int)] H = .ok (.lst [.str "partition", .ref L], true, H)) := fun L hL H hR s hs => (hR L hL).elim fun xs e => by
    have kt := kT
    rw [Bool.and_eq_true, Bool.and_eq_true] at kt
    obtain ⟨⟨k2, k3⟩, k4⟩ := kt
    obtain ⟨b2, g2, e2, q2⟩ := isB_ok k2
    obtain ⟨b3, g3, e3, q3⟩ := isB_ok k3
    obtain ⟨b4, g4, e4, q4⟩ := isB_ok (of_decide_eq_true k4)
    cases e2; cases e3; cases e4
    exact ask3_ref hs (joins_part (callN_any (F := F_is_told_of) rfl rfl rfl q2) (callN_any (F := F_is_told_of) rfl rfl rfl q3) (callN_any (F := F_is_told_of) rfl rfl rfl q4) rfl (ipo_ref (tuple_ref e _)))
  rcases w_split h with (rfl | rfl) | ⟨hx, hr⟩
  · exact ⟨rf _ h1, .inr ⟨_, h1, rfl⟩⟩
  · exact ⟨rf _ h2, .inr ⟨_, h2, rfl⟩⟩
  · have := List.all_eq_true.mp kw3 x hx
    rw [hr, Bool.false_or, Bool.and_eq_true, Bool.and_eq_true] at this
    obtain ⟨c, n, s⟩ := chkS_ok this.1.1
    exact ⟨fun H _ => two (P := fun s => callN T 10 f_law_asked [.int 2, .lst [t011, x], .int (s : Int)] H = .ok (.lst [.str "partition", x], true, H)) (chkA_ok this.1.2 c H) (chkA_ok this.2 c H), .inl ⟨n, s⟩⟩
end
end K13

set_option maxHeartbeats 4000000
namespace K13
open Rw
/-- the first three statements: the lists, five of them cells -/
def sLists : Ss := match b_law_refused with
  | .cons a (.cons b (.cons c _)) => .cons a (.cons b (.cons c .nil))
  | _ => .nil
def sRest : Ss := match b_law_refused with
  | .cons a (.cons b (.cons c r)) => r
  | _ => .nil
theorem refused_body : F_law_refused.body = appS sLists sRest := by kernel_rfl
abbrev cells5 : Hp := [.lst [.int 2], .lst [t01, .int 0, .int 1], .lst [], .lst [.int 0, .int 1, .int 2], .lst []]
abbrev g1 (h : Hp) : Hp := h ++ [Cell.lst [.int 2]]
abbrev g2 (h : Hp) : Hp := g1 h ++ [Cell.lst [t01, .int 0, .int 1]]
abbrev g3 (h : Hp) : Hp := g2 h ++ [Cell.lst []]
abbrev g4 (h : Hp) : Hp := g3 h ++ [Cell.lst [.int 0, .int 1, .int 2]]
abbrev g5 (h : Hp) : Hp := g4 h ++ [Cell.lst []]
theorem lists_ok (N r : Nat) (tn : D) (h : Hp) : evSs (T.pg (callN T N)) none sLists [some ⟨.ref r, false⟩, some ⟨tn, false⟩, none, none, none, none, none, none, none, none, none, none, none] h =
    .nx [some ⟨.ref r, false⟩, some ⟨tn, false⟩, some ⟨.lst (cL h.length), true⟩, some ⟨.lst (oL (h.length + 1) (h.length + 2)), true⟩, some ⟨.lst (wL (h.length + 3) (h.length + 4)), true⟩, none, none, none, none, none, none, none, none] (h ++ cells5) := by
  have k : evSs (T.pg (callN T N)) none sLists [some ⟨.ref r, false⟩, some ⟨tn, false⟩, none, none, none, none, none, none, none, none, none, none, none] h =
    .nx [some ⟨.ref r, false⟩, some ⟨tn, false⟩, some ⟨.lst (cL h.length), true⟩, some ⟨.lst (oL (g1 h).length (g2 h).length), true⟩, some ⟨.lst (wL (g3 h).length (g4 h).length), true⟩, none, none, none, none, none, none, none, none] (g5 h) := by kernel_rfl
  have l1 : (g1 h).length = h.length + 1 := by simp
  have l2 : (g2 h).length = h.length + 2 := by simp
  have l3 : (g3 h).length = h.length + 3 := by simp
  have l4 : (g4 h).length = h.length + 4 := by simp
  have l5 : g5 h = h ++ cells5 := by simp
  rw [k, l1, l2, l3, l4, l5]
section
variable {N r : Nat} {R : List Nat}
abbrev EW (r tn : Nat) (A B C : List D) (as : List D) (o : Bool) (x6 x7 x8 x9 x10 x11 x12 : Option Sl) : Env := [some ⟨.ref r, false⟩, some ⟨.int tn, false⟩, some ⟨.lst A, true⟩, some ⟨.lst B, true⟩, some ⟨.lst C, true⟩, some ⟨.lst as, o⟩, x6, x7, x8, x9, x10, x11, x12]
/-- one more of the loop's asks -/
theorem more_ok (hT : TakeOk N) {A B C : List D} (hA : B.length = 13) (hC : C.length = 14) {tn : Nat} {as : List D} (hz : as.length < 500) {x6 x7 x8 x9 x10 x11 x12 : Option Sl} {h : Hp} {a c d : Int} {b : Bool} (hb : h[r]? = some (boxC a b c d)) (hc : 0 ≤ c ∧ c < 2147483648) (hd : 0 ≤ d ∧ d < 80000000000) :
    ∃ (x y : D) (a' d' : Int) (h' : Hp), x ∈ C ∧ y ∈ B ∧ evSs (T.pg (callN T N)) none l_law_refused_0 (EW r tn A B C as true x6 x7 x8 x9 x10 x11 x12) h =
      .nx (EW r tn A B C (as ++ [.lst [.int 2, .lst [t011, x], .str "partition", .int 1]] ++ [.lst [.int 2, .lst [y, t01], .str "told frame", .int 0]]) true x6 x7 x8 x9 x10 x11 x12) h' ∧ h'[r]? = some (boxC a' b c d') ∧ d ≤ d' ∧ d' ≤ d + 2 ∧ Kp r h h' := by
  obtain ⟨x, hx, a1, d1, q1, i1, i2⟩ := pick_ok (cap := true) (v := 4) (o := true) (L := C) (m := 14) (env := EW r tn A B C as true x6 x7 x8 x9 x10 x11 x12) hT (by omega) (by decide) rfl rfl hb hc ⟨by omega, by omega⟩
  have hb1 : (h.set r (boxC a1 b c d1))[r]? = some (boxC a1 b c d1) := set_at hb _
  obtain ⟨y, hy, a2, d2, q2, j1, j2⟩ := pick_ok (cap := true) (v := 3) (o := true) (L := B) (m := 13) (env := EW r tn A B C (as ++ [.lst [.int 2, .lst [t011, x], .str "partition", .int 1]]) true x6 x7 x8 x9 x10 x11 x12) hT (by omega) (by decide) rfl rfl hb1 hc ⟨by omega, by omega⟩
  refine ⟨x, y, a2, d2, (h.set r (boxC a1 b c d1)).set r (boxC a2 b c d2), hx, hy, ?_, set_at hb1 _, by omega, by omega, Kp.set.trans .set⟩
  have mu : ∀ (es : Es) (v : D) (g g' : Hp) (as' : List D), as'.length < 900 → evEs (T.pg (callN T N)) none true es (EW r tn A B C as' true x6 x7 x8 x9 x10 x11 x12) g = .ok ([v], g') →
      evS (T.pg (callN T N)) none (.mut .append (.var 5) es) (EW r tn A B C as' true x6 x7 x8 x9 x10 x11 x12) g = .nx (EW r tn A B C (as' ++ [v]) true x6 x7 x8 x9 x10 x11 x12) g' := fun es v g g' as' hl q => by
    have hl : as'.length < maxLen := lt_max (by omega)
    simp only [evS, rootVar, show ownAt (EW r tn A B C as' true x6 x7 x8 x9 x10 x11 x12) 5 = some (.lst as') from rfl, show mtOk .append (some (contN (.lst as'))) = true from rfl, if_true, show Mt.keeps .append = true from rfl, q, R.st_ok, evMut, hl]
    rfl
  refine (ss_nx (mu _ (.lst [.int 2, .lst [t011, x], .str "partition", .int 1]) _ (h.set r (boxC a1 b c d1)) as (by omega) (es_cons' (o := true) (e_lst ?_ (by show 4 ≤ 100000; decide)) es_nil'))).trans ?_
  · exact es_cons' e_con (es_cons' (e_lst (es_cons' (d := t011) (o := false) (h1 := h) rfl (es_cons' q1 es_nil')) (by show 2 ≤ 100000; decide)) (es_cons' e_con (es_cons' e_con es_nil')))
  refine (ss_nx (mu _ (.lst [.int 2, .lst [y, t01], .str "told frame", .int 0]) _ _ _ (by simp; omega) (es_cons' (o := true) (e_lst ?_ (by show 4 ≤ 100000; decide)) es_nil'))).trans ss_nil
  exact es_cons' e_con (es_cons' (e_lst (es_cons' q2 (es_cons' (d := t01) (o := false) rfl es_nil')) (by show 2 ≤ 100000; decide)) (es_cons' e_con (es_cons' e_con es_nil')))
theorem refused_core (hT : TakeOk N) (hs : ∀ m H i, CellOk m H i → m < 1000 → callN T N f_law_same [.ref i, .ref i] H = .ok (.bl true, false, H)) {tn : Nat} (ht : tn < 2) {h : Hp} {a c d : Int} {b : Bool} (hb : h[r]? = some (boxC a b c d)) (hc : 0 ≤ c ∧ c < 2147483648) (hd : 0 ≤ d ∧ d < 70000000000)
    (f0 : ∀ R, h.length ∈ R → ∀ x ∈ cL h.length, AskOk N R (.lst [.int 0, .lst [x], .str "many", .int 0]) ∧ AskOk N R (.lst [.int 1, .lst [x, tt01], .str "many", .int 0]))
    (f1 : ∀ R, h.length + 1 ∈ R → h.length + 2 ∈ R → ∀ x ∈ oL (h.length + 1) (h.length + 2), AskOk N R (.lst [.int 2, .lst [x, .lst [.int 7]], .str "told frame", .int 0]) ∧ AskOk N R (.lst [.int 2, .lst [x, t01], .str "told frame", .int 0]))
    (f2 : ∀ R, h.length + 3 ∈ R → h.length + 4 ∈ R → ∀ x ∈ wL (h.length + 3) (h.length + 4), AskOk N R (.lst [.int 2, .lst [t011, x], .str "partition", .int 1])) :
    ∃ (a' d' : Int) (h' : Hp), callN T (N + 1) f_law_refused [.ref r, .int tn] h = .ok (.bl true, false, h') ∧ h'[r]? = some (boxC a' b c d') ∧ d ≤ d' ∧ d' ≤ d + 100 ∧ Kp r h h' := by
  have lr := lt_of_at hb
  generalize hR : [h.length, h.length + 1, h.length + 2, h.length + 3, h.length + 4] = R
  have m0 : h.length ∈ R := by rw [← hR]; simp
  have m1 : h.length + 1 ∈ R := by rw [← hR]; simp
  have m2 : h.length + 2 ∈ R := by rw [← hR]; simp
  have m3 : h.length + 3 ∈ R := by rw [← hR]; simp
  have m4 : h.length + 4 ∈ R := by rw [← hR]; simp
  have rR : ∀ i ∈ R, h.length ≤ i ∧ i < h.length + 5 := fun i hi => by
    rw [← hR] at hi
    simp only [List.mem_cons, List.not_mem_nil, or_false] at hi
    omega
  have rn : r ∉ R := fun z => by have := rR r z; omega
  let h0 : Hp := h ++ cells5
  have c0 : ∀ i ∈ R, CellOk 10 h0 i := fun i hi => by
    rw [← hR] at hi
    simp only [List.mem_cons, List.not_mem_nil, or_false] at hi
    rcases hi with rfl | rfl | rfl | rfl | rfl
    · exact ⟨_, by rw [show h0 = h ++ cells5 from rfl, List.getElem?_append_right (Nat.le_refl _)]; simp; rfl, by simp [wW], by decide⟩
    · exact ⟨_, by rw [show h0 = h ++ cells5 from rfl, List.getElem?_append_right (by omega)]; simp; rfl, by simp [wW], by decide⟩
    · exact ⟨_, by rw [show h0 = h ++ cells5 from rfl, List.getElem?_append_right (by omega)]; simp; rfl, by simp [wW], by decide⟩
    · exact ⟨_, by rw [show h0 = h ++ cells5 from rfl, List.getElem?_append_right (by omega)]; simp; rfl, by simp [wW], by decide⟩
    · exact ⟨_, by rw [show h0 = h ++ cells5 from rfl, List.getElem?_append_right (by omega)]; simp; rfl, by simp [wW], by decide⟩
  have k0 : Kp r h h0 := .app _
  have b0 : h0[r]? = some (boxC a b c d) := by rw [show h0 = h ++ cells5 from rfl, List.getElem?_append_left lr]; exact hb
  -- a heap that differs from h0 in the box alone keeps the cells
  have keepC : ∀ {m : Nat} {H H' : Hp}, (∀ i ∈ R, CellOk m H i) → Kp r H H' → ∀ i ∈ R, CellOk m H' i := fun hcl kp i hi => (hcl i hi).elim fun xs z => ⟨xs, Kp.at kp z.1 (fun e => rn (e ▸ hi)), z.2⟩
  generalize hA : cL h.length = A at f0
  generalize hB : oL (h.length + 1) (h.length + 2) = B at f1
  generalize hC : wL (h.length + 3) (h.length + 4) = C at f2
  have lA : A.length = 10 := by rw [← hA]; rfl
  have lB : B.length = 13 := by rw [← hB]; rfl
  have lC : C.length = 14 := by rw [← hC]; rfl
  -- the first asks
  obtain ⟨x, hx, a1, d1, q1, i1, i2⟩ := pick_ok (cap := true) (v := 2) (o := true) (L := A) (m := 10) (env := [some ⟨.ref r, false⟩, some ⟨.int tn, false⟩, some ⟨.lst A, true⟩, some ⟨.lst B, true⟩, some ⟨.lst C, true⟩, none, none, none, none, none, none, none, none]) hT (by omega) (by decide) rfl rfl b0 hc ⟨by omega, by omega⟩
  have b01 : (h0.set r (boxC a1 b c d1))[r]? = some (boxC a1 b c d1) := set_at b0 _
  obtain ⟨y, hy, a2, d2, q2, j1, j2⟩ := pick_ok (cap := true) (v := 2) (o := true) (L := A) (m := 10) (env := [some ⟨.ref r, false⟩, some ⟨.int tn, false⟩, some ⟨.lst A, true⟩, some ⟨.lst B, true⟩, some ⟨.lst C, true⟩, none, none, none, none, none, none, none, none]) hT (by omega) (by decide) rfl rfl b01 hc ⟨by omega, by omega⟩
  have b02 : ((h0.set r (boxC a1 b c d1)).set r (boxC a2 b c d2))[r]? = some (boxC a2 b c d2) := set_at b01 _
  obtain ⟨z, hz, a3, d3, q3, k1, k2⟩ := pick_ok (cap := true) (v := 3) (o := true) (L := B) (m := 13) (env := [some ⟨.ref r, false⟩, some ⟨.int tn, false⟩, some ⟨.lst A, true⟩, some ⟨.lst B, true⟩, some ⟨.lst C, true⟩, none, none, none, none, none, none, none, none]) hT (by omega) (by decide) rfl rfl b02 hc ⟨by omega, by omega⟩
  let h1 : Hp := ((h0.set r (boxC a1 b c d1)).set r (boxC a2 b c d2)).set r (boxC a3 b c d3)
  have b1 : h1[r]? = some (boxC a3 b c d3) := set_at (set_at (set_at b0 _) _) _
  have k1' : Kp r h0 h1 := (Kp.set.trans .set).trans .set
  let as0 : List D := [.lst [.int 0, .lst [x], .str "many", .int 0], .lst [.int 1, .lst [y, tt01], .str "many", .int 0], .lst [.int 2, .lst [z, .lst [.int 7]], .str "told frame", .int 0]]
  have ok0 : ∀ w ∈ as0, AskOk N R w := fun w hw => by
    simp only [as0, List.mem_cons, List.not_mem_nil, or_false] at hw
    rcases hw with rfl | rfl | rfl
    · exact (f0 R m0 x hx).1
    · exact (f0 R m0 y hy).2
    · exact (f1 R m1 m2 z hz).1
  -- three turns
  obtain ⟨env2, h2, e2, as, x6, ee2, okA, la, a4, d4, b4, p1, p2, kp2⟩ := forGo_all (chk := stays .non (rng 0 3)) (t := .n 6) (b := evSs (T.pg (callN T N)) none l_law_refused_0) (ds := rng 0 3) (h := h1) (env := EW r tn A B C as0 true none none none none none none none)
    (fun pre env g => ∃ (as : List D) (x6 : Option Sl), env = EW r tn A B C as true x6 none none none none none none ∧ (∀ w ∈ as, AskOk N R w) ∧ as.length ≤ 3 + 2 * pre.length ∧ ∃ a' d', g[r]? = some (boxC a' b c d') ∧ d ≤ d' ∧ d' ≤ d + 3 + 2 * pre.length ∧ Kp r h1 g)
    (fun _ _ _ => rfl) ⟨as0, none, rfl, ok0, Nat.le_refl _, a3, d3, b1, by omega, by simp; omega, .refl⟩ fun pre v post hsp env g ⟨as, x6, ee, okA, la, a', d', bb, p1, p2, kp⟩ => by
      subst ee
      have lp : pre.length + 1 + post.length = 3 := by
        have := congrArg List.length hsp
        simp [rng] at this
        omega
      obtain ⟨u, w, a'', d'', g', hu, hw, e, bb', r1, r2, kp'⟩ := more_ok (r := r) (tn := tn) (A := A) (as := as) (x6 := some ⟨v, false⟩) (x7 := none) (x8 := none) (x9 := none) (x10 := none) (x11 := none) (x12 := none) hT lB lC (by omega) bb hc ⟨by omega, by omega⟩
      refine ⟨rfl, _, _, _, rfl, .inl e, _, _, rfl, fun s hs' => ?_, by simp only [List.length_append, List.length_cons, List.length_nil]; omega, a'', d'', bb', by omega, by simp only [List.length_append, List.length_cons, List.length_nil]; omega, kp.trans kp'⟩
      simp only [List.mem_append, List.mem_cons, List.not_mem_nil, or_false] at hs'
      rcases hs' with (hs' | rfl) | rfl
      · exact okA s hs'
      · exact f2 R m3 m4 u hu
      · exact (f1 R m1 m2 w hw).2
  have la : as.length ≤ 9 := by rw [rng_len] at la; omega
  have p2 : d4 ≤ d + 9 := by rw [rng_len] at p2; omega
  have c2 := keepC (keepC c0 k1') kp2
  -- the asks
  obtain ⟨env3, h3, e3, tn3, y6, y7, y8, y9, y10, y11, y12, ht3, ee3, c3, l3, kk3⟩ := forGo_all (chk := stays (.lst as) as) (t := .t (.cons (.n 7) (.cons (.n 8) (.cons (.n 9) (.cons (.n 10) .nil))))) (b := evSs (T.pg (callN T N)) none l_law_refused_1) (ds := as) (h := h2) (env := EW r tn A B C as false x6 none none none none none none)
    (fun pre env g => ∃ (tn' : Nat) (y6 y7 y8 y9 y10 y11 y12 : Option Sl), tn' < 2 ∧ env = EW r tn' A B C as false y6 y7 y8 y9 y10 y11 y12 ∧ (∀ i ∈ R, CellOk (10 + pre.length) g i) ∧ g.length = h2.length ∧ ∀ j, j ∉ R → g[j]? = h2[j]?)
    (fun _ _ _ => rfl) ⟨tn, x6, none, none, none, none, none, none, ht, rfl, c2, rfl, fun _ _ => rfl⟩ fun pre v post hsp env g ⟨tn', y6, y7, y8, y9, y10, y11, y12, ht', ee, cc, ll, kk⟩ => by
      subst ee
      have lp : pre.length + 1 + post.length = as.length := by
        have := congrArg List.length hsp
        simp at this
        omega
      obtain ⟨env1, tn'', z7, z8, z9, z10, z11, z12, g', q1, q2, q3, q4, q5, q6⟩ := ask_turn (H := g) hs (okA v (by rw [hsp]; simp)) (m := 10 + pre.length) (by omega) cc ht' (x0 := some ⟨.ref r, false⟩) (x2 := some ⟨.lst A, true⟩) (x3 := some ⟨.lst B, true⟩) (x4 := some ⟨.lst C, true⟩) (x5 := some ⟨.lst as, false⟩) (x6 := y6) (x7 := y7) (x8 := y8) (x9 := y9) (x10 := y10) (x11 := y11) (x12 := y12)
      exact ⟨rfl, env1, _, g', q1, .inl q3, tn'', y6, z7, z8, z9, z10, z11, z12, q2, rfl, fun i hi => by
        rw [List.length_append, List.length_cons, List.length_nil]
        exact q4 i hi, q5.trans ll, fun j hj => (q6 j hj).trans (kk j hj)⟩
  have kp3 : Kp r h h3 := by
    have k5 : Kp r h h2 := (k0.trans k1').trans kp2
    exact ⟨by rw [l3]; exact k5.1, fun i hi n => (kk3 i (fun z => by have := rR i z; omega)).trans (k5.2 i hi n)⟩
  refine ⟨a4, d4, h3, ?_, (kk3 r rn).trans b4, by omega, by omega, kp3⟩
  rw [callN_step (F := F_law_refused) rfl rfl]
  refine fn_rt rfl (env := [some ⟨.ref r, false⟩, some ⟨.int tn, false⟩, none, none, none, none, none, none, none, none, none, none, none]) rfl ?_
  rw [refused_body]
  refine (ss_app (lists_ok N r (.int tn) h)).trans ?_
  rw [hA, hB, hC]
  show evSs (T.pg (callN T N)) none sRest _ h0 = _
  refine (ss_nx ((s_asg (d := .lst as0) (o := true) (h1 := h1) ?_ (by simp)).trans rfl)).trans ?_
  · exact e_lst (es_cons' (e_lst (es_cons' e_con (es_cons' (e_lst (es_cons' q1 es_nil') (by show 1 ≤ 100000; decide)) (es_cons' e_con (es_cons' e_con es_nil')))) (by show 4 ≤ 100000; decide))
      (es_cons' (e_lst (es_cons' e_con (es_cons' (e_lst (es_cons' q2 (es_cons' (d := tt01) (o := false) rfl es_nil')) (by show 2 ≤ 100000; decide)) (es_cons' e_con (es_cons' e_con es_nil')))) (by show 4 ≤ 100000; decide))
      (es_cons' (e_lst (es_cons' e_con (es_cons' (e_lst (es_cons' q3 (es_cons' (e_lst (es_cons' e_con es_nil') (by show 1 ≤ 100000; decide)) es_nil')) (by show 2 ≤ 100000; decide)) (es_cons' e_con (es_cons' e_con es_nil')))) (by show 4 ≤ 100000; decide)) es_nil'))) (by show 3 ≤ 100000; decide)
  have w3 : evI (T.pg (callN T N)) none true (.rng1 (.con (.int 3))) (EW r tn A B C as0 true none none none none none none none) h1 = .ok (.non, rng 0 3, h1) := it_rng1 (i := 3) (o := false) e_con (by decide) (by decide)
  subst ee2
  refine (ss_nx ((s_for w3).trans e2)).trans ?_
  subst ee3
  refine (ss_nx (s_frz.trans ((s_for (it_seq (o := false) (e_var rfl rfl) rfl)).trans e3))).trans ?_
  exact ss_rt (s_ret e_con)
theorem refused_ok {tn : Nat} (ht : tn < 2) {h : Hp} {a c d : Int} {b : Bool} (hb : h[r]? = some (boxC a b c d)) (hc : 0 ≤ c ∧ c < 2147483648) (hd : 0 ≤ d ∧ d < 70000000000) :
    ∃ (a' d' : Int) (h' : Hp), callN T 11 f_law_refused [.ref r, .int tn] h = .ok (.bl true, false, h') ∧ h'[r]? = some (boxC a' b c d') ∧ d ≤ d' ∧ d' ≤ d + 100 ∧ Kp r h h' :=
  refused_core (N := 10) (take_all 9) (fun m H i hc hm => same_cell hc hm) ht hb hc hd (fun R h0 x hx => ⟨ask_c0 h0 hx, ask_c1 h0 hx⟩) (fun R h1 h2 x hx => ⟨ask_o2 h1 h2 hx, ask_o4 h1 h2 hx⟩) fun R h3 h4 x hx => ask_w3 h3 h4 hx
end
end K13

set_option maxHeartbeats 4000000
namespace K13
open Rw
/-- the shape of a told frame's data, and of what it joins -/
def shpT (p : Nat) (t : D) : Bool := match t with
  | .tup [.tup as, .int _, .int _] => as.length == p && clos as
  | _ => false
def shpP (p : Nat) (b : D) : Bool := match b with
  | .tup bs => bs.length == p && clos bs
  | _ => false
theorem shpT_eq {p : Nat} {t : D} (h : shpT p t = true) : ∃ as i j, t = .tup [.tup as, .int i, .int j] ∧ as.length = p ∧ clos as = true := by
  unfold shpT at h
  split at h
  · rename_i as i j
    rw [Bool.and_eq_true, beq_iff_eq] at h
    exact ⟨_, _, _, rfl, h⟩
  · cases h
theorem shpP_eq {p : Nat} {t : D} (h : shpP p t = true) : ∃ bs, t = .tup bs ∧ bs.length = p ∧ clos bs = true := by
  unfold shpP at h
  split at h
  · rw [Bool.and_eq_true, beq_iff_eq] at h
    exact ⟨_, rfl, h⟩
  · cases h
def isBl : D → Bool
  | .bl _ => true
  | _ => false
def shpU (u : List D) : Bool := u.all isBl && D.beqs (u.take 1) [.bl true] && D.beqs (u.drop (u.length - 1)) [.bl false] && shp (.lst u)
/-- all that was computed -/
structure Comp (p : Nat) (pt : List D) (tb : List (D × List D)) (en : List (List Bool)) : Prop where
  pv : p = 2 ∨ p = 3 ∨ p = 4
  j : ∀ q ∈ tb, chkJ pt q = true
  c : ∀ q ∈ tb, chkT p q = true
  n : ∀ q ∈ tb, chkN p q = true
  w : ∀ q ∈ tb, ∀ n r h, NearOk n q.1 r h
  u : ∀ i, i < pt.length → chkU pt (pt.getD i .non) (en.getD i []) = true
  m : tb.all (fun q => chkM en q.2 && q.2.length == pt.length) = true
  d : ∀ (i j : Nat) (q z : D × List D), tb[i]? = some q → tb[j]? = some z → i ≠ j → eqvs q.2 z.2 = false
  s : tb.all (fun q => shpT p q.1 && shpU q.2) = true
  sp : pt.all (shpP p) = true
  le : en.length = pt.length
  le2 : en.all (fun r => r.length == pt.length) = true
  ltb : tb.length < 100
  lpt : pt.length < 1000
  po : ∀ h, callN T 8 f_check_posts [.int p] h = .ok (.non, false, h)
theorem isB_any {n f : Nat} {ds : List D} {F : Fn} {b : Bool} (e : T.tbl f = some F) (c : (F.pure && clos ds) = true) (h : isB (callN T n f ds []) (.bl b) = true) (H : Hp) : callN T n f ds H = .ok (.bl b, false, H) := by
  obtain ⟨b', g, e1, e2⟩ := isB_ok h
  cases e1
  exact callN_any e c rfl e2
theorem zip_at {α β : Type} {xs : List α} {ys : List β} {k : Nat} {x : α} {y : β} (h1 : xs[k]? = some x) (h2 : ys[k]? = some y) : (x, y) ∈ xs.zip ys := by
  have : (xs.zip ys)[k]? = some (x, y) := by rw [List.getElem?_zip_eq_some]; exact ⟨h1, h2⟩
  exact List.mem_of_getElem? this
section
variable {p : Nat} {pt : List D} {tb : List (D × List D)} {en : List (List Bool)}
theorem tf_of (C : Comp p pt tb en) {q : D × List D} (hq : q ∈ tb) : TF 10 p pt q.1 q.2 ∧ shp (.lst q.2) = true := by
  obtain ⟨t, u⟩ := q
  have c := C.c _ hq
  have j := C.j _ hq
  have n := C.n _ hq
  have m := List.all_eq_true.mp C.m _ hq
  have s := List.all_eq_true.mp C.s _ hq
  simp only [Bool.and_eq_true, beq_iff_eq] at m s
  obtain ⟨m1, len⟩ := m
  obtain ⟨s1, s2⟩ := s
  unfold chkT at c
  simp only [Bool.and_eq_true] at c
  obtain ⟨⟨⟨⟨⟨⟨ct, t2⟩, t3⟩, t4⟩, sm⟩, _⟩, _⟩ := c
  unfold shpU at s2
  simp only [Bool.and_eq_true] at s2
  obtain ⟨⟨⟨u1, u2⟩, u3⟩, u4⟩ := s2
  have bls : ∀ (k : Nat) (d : D), u[k]? = some d → ∃ b, d = .bl b := fun k d e => by
    have := List.all_eq_true.mp u1 d (List.mem_of_getElem? e)
    cases d <;> first | exact ⟨_, rfl⟩ | cases this
  have ub : ∀ {l : List D}, (∀ d ∈ l, isBl d = true) → clos l = true := fun {l} => by
    induction l with
    | nil => intro _; rfl
    | cons d l ih =>
      intro hl
      have h1 := hl d (List.mem_cons_self ..)
      have : clo d = true := by cases d <;> first | rfl | cases h1
      simp [clos, this, ih fun x hx => hl x (List.mem_cons_of_mem _ hx)]
  have cu : clos (rowD u) = true := by
    have : ∀ l : List D, clos l = true → clos (rowD l) = true := fun l => by
      induction l with
      | nil => intro _; rfl
      | cons d l ih =>
        intro hl
        simp only [clos, Bool.and_eq_true] at hl
        simp only [rowD, List.map_cons, clos, clo, hl.1, Bool.true_and, Bool.and_true]
        exact ih hl.2
    exact this u (ub fun d hd => List.all_eq_true.mp u1 d hd)
  have pos : 0 < u.length := by
    have := D.beqs_eq u2
    cases u with
    | nil => cases this
    | cons _ _ => simp
  have f1 : u[0]? = some (.bl true) := by
    have := D.beqs_eq u2
    cases u with
    | nil => cases this
    | cons a l => simpa using this
  have f2 : u[u.length - 1]? = some (.bl false) := by
    have e := D.beqs_eq u3
    have : (u.drop (u.length - 1))[0]? = some (.bl false) := by rw [e]; rfl
    rw [List.getElem?_drop] at this
    simpa using this
  have ptc : ∀ {k : Nat} {b : D}, pt[k]? = some b → clo b = true ∧ shpP p b = true ∧ ∃ ks, en[k]? = some ks ∧ chkU pt b ks = true := fun {k b} e => by
    have hk : k < pt.length := (List.getElem?_eq_some_iff.mp e).1
    have hu := C.u k hk
    have e2 : pt.getD k .non = b := by rw [List.getD_eq_getElem?_getD, e]; rfl
    have hk2 : k < en.length := by rw [C.le]; exact hk
    have e3 : en[k]? = some en[k] := List.getElem?_eq_getElem hk2
    have e4 : en.getD k [] = en[k] := by rw [List.getD_eq_getElem?_getD, e3]; rfl
    rw [e2, e4] at hu
    have hu' := hu
    unfold chkU at hu
    simp only [Bool.and_eq_true] at hu
    exact ⟨hu.1.1, List.all_eq_true.mp C.sp b (List.mem_of_getElem? e), _, e3, hu'⟩
  have jb : ∀ {k : Nat} {b d : D}, pt[k]? = some b → u[k]? = some d → isB (callN T 8 f_joins_by [t, b] []) d = true ∧ isB (callN T 10 f_law_joins [t, b] []) d = true := fun {k b d} e1 e2 => by
    have := List.all_eq_true.mp j (b, d) (zip_at e1 e2)
    rw [Bool.and_eq_true] at this
    exact this
  refine ⟨⟨ct, len, fun k b d e1 e2 st hst h => ?_, fun k b d e1 e2 h => ?_, fun h => isB_any (F := F_law_same) rfl (by simp [F_law_same, clos, clo, cu]) sm h, bls, f1, f2, fun i j a b e1 e2 e3 e4 h => ?_, ?_, fun v hv => ?_⟩, u4⟩
  · obtain ⟨bd, rfl⟩ := bls k d e2
    obtain ⟨cb, sb, ks, ek, hu⟩ := ptc e1
    obtain ⟨j1, j2⟩ := jb e1 e2
    -- the told frame's parts
    obtain ⟨as, i', j', et, sA⟩ := shpT_eq s1
    obtain ⟨bs, eb, sB⟩ := shpP_eq sb
    have et : t = .tup [.tup as, .int i', .int j'] := et
    subst et eb
    unfold chkU at hu
    simp only [Bool.and_eq_true] at hu
    have hpo : ∀ h, callN T 8 f_is_partition_of [.int p, .tup bs] h = .ok (.bl true, false, h) := isB_any (F := F_is_partition_of) rfl (by simp [F_is_partition_of, clos, clo, sB.2]) (by have := hu.1.2; simpa [sB.1] using this)
    have cl : (F_is_told_of.pure && clos [.int 2, .tup [.tup as, .int i', .int j']]) = true := by simp [F_is_told_of, clos, clo, sA.2]
    have cl3 : (F_is_told_of.pure && clos [.int 3, .tup [.tup as, .int i', .int j']]) = true := by simp [F_is_told_of, clos, clo, sA.2]
    have cl4 : (F_is_told_of.pure && clos [.int 4, .tup [.tup as, .int i', .int j']]) = true := by simp [F_is_told_of, clos, clo, sA.2]
    exact asked2_ok hst ct cb (joins_ok C.pv sA.1 sA.2 cb (isB_any (F := F_is_told_of) rfl cl t2) (isB_any (F := F_is_told_of) rfl cl3 t3) (isB_any (F := F_is_told_of) rfl cl4 t4) hpo (isB_any (F := F_joins_by) rfl (by simp [F_joins_by, clos, clo, sA.2, sB.2]) j1)) h
  · obtain ⟨bd, rfl⟩ := bls k d e2
    obtain ⟨cb, _⟩ := ptc e1
    exact isB_any (F := F_law_joins) rfl (by simp [F_law_joins, clos, ct, cb]) (jb e1 e2).2 h
  · obtain ⟨ca, _, ks, ek, hu⟩ := ptc e3
    obtain ⟨cb, _⟩ := ptc e4
    have hl : ks.length = pt.length := by
      have := List.all_eq_true.mp C.le2 ks (List.mem_of_getElem? ek)
      simpa using this
    have hj : j < ks.length := by rw [hl]; exact (List.getElem?_eq_some_iff.mp e4).1
    have ekj : ks[j]? = some ks[j] := List.getElem?_eq_getElem hj
    unfold chkU at hu
    simp only [Bool.and_eq_true] at hu
    have ub' := List.all_eq_true.mp hu.2 (b, ks[j]) (zip_at e4 ekj)
    have mm := List.all_eq_true.mp (List.all_eq_true.mp m1 (.bl true, ks) (zip_at e1 ek)) (.bl false, ks[j]) (zip_at e2 ekj)
    have kf : ks[j] = false := by simpa [nt] using mm
    have ub' : uniB a b ks[j] = true := ub'
    unfold uniB at ub'
    split at ub'
    · rename_i us g eq
      simp only [Bool.and_eq_true, beq_iff_eq] at ub'
      obtain ⟨⟨⟨v1, v2⟩, v3⟩, v4⟩ := ub'
      exact ⟨.tup us, callN_any (F := F_law_united) rfl (by simp [F_law_united, clos, ca, cb]) (by simpa [clo] using v1) eq, v2, v3, by rw [v4, kf]⟩
    · cases ub'
  · unfold chkN at n
    simp only [Bool.and_eq_true, beq_iff_eq, decide_eq_true_eq] at n
    obtain ⟨⟨⟨n1, n2⟩, n3⟩, _⟩ := n
    refine ⟨n1, ?_, by have n3 : (nearL t).length = 25 := n3; show (nearL t).length ≤ 30; omega, fun n r h => C.w _ hq n r h⟩
    unfold isE at n2
    split at n2
    · rename_i xs o eq
      exact ⟨o, by unfold nearL lstAt; rw [eq]⟩
    · cases n2
  · unfold chkN at n
    simp only [Bool.and_eq_true] at n
    have := List.all_eq_true.mp n.2 v hv
    rw [Bool.and_eq_true] at this
    obtain ⟨cv, r1⟩ := this
    split at r1
    · rename_i b g eq
      exact ⟨b, fun s hs h => asked1_ok hs cv C.po (fun h => callN_any (F := F_is_told_of) rfl (by simp [F_is_told_of, clos, clo, cv]) rfl eq) h, isB_any (F := F_law_is_told) rfl (by simp [F_law_is_told, clos, clo, cv]) r1⟩
    · cases r1
end
end K13

set_option maxHeartbeats 4000000
namespace K13
open Rw
theorem sameT (k : Bool) (h : Hp) : callN T 10 f_law_same [.lst [sT, .bl k], .lst [sT, .bl k]] h = .ok (.bl true, false, h) := by
  cases k
  · kernel_rfl
  · kernel_rfl
theorem same8 (h : Hp) : callN T 8 f_law_same [sT, sT] h = .ok (.bl true, false, h) := by kernel_rfl
theorem po2 (h : Hp) : callN T 8 f_check_posts [.int 2] h = .ok (.non, false, h) := by kernel_rfl
theorem po3 (h : Hp) : callN T 8 f_check_posts [.int 3] h = .ok (.non, false, h) := by kernel_rfl
theorem po4 (h : Hp) : callN T 8 f_check_posts [.int 4] h = .ok (.non, false, h) := by kernel_rfl
theorem comp2 : Comp 2 pt2 tb2 en2 := ⟨.inl rfl, j2, c2, n2, w2, fun i hi => by
    match i, hi with
    | 0, _ => exact v2_0
    | 1, _ => exact v2_1, m2, d2, by decide +kernel, by decide +kernel, rfl, by decide +kernel, by decide, by decide, po2⟩
theorem comp3 : Comp 3 pt3 tb3 en3 := ⟨.inr (.inl rfl), j3, c3, n3, w3, fun i hi => by
    match i, hi with
    | 0, _ => exact v3_0
    | 1, _ => exact v3_1
    | 2, _ => exact v3_2
    | 3, _ => exact v3_3
    | 4, _ => exact v3_4, m3, d3, by decide +kernel, by decide +kernel, rfl, by decide +kernel, by decide, by decide, po3⟩
theorem comp4 : Comp 4 pt4 tb4 en4 := ⟨.inr (.inr rfl), j4, c4, n4, w4, fun i hi => by
    match i, hi with
    | 0, _ => exact v4_0
    | 1, _ => exact v4_1
    | 2, _ => exact v4_2
    | 3, _ => exact v4_3
    | 4, _ => exact v4_4
    | 5, _ => exact v4_5
    | 6, _ => exact v4_6
    | 7, _ => exact v4_7
    | 8, _ => exact v4_8
    | 9, _ => exact v4_9
    | 10, _ => exact v4_10
    | 11, _ => exact v4_11
    | 12, _ => exact v4_12
    | 13, _ => exact v4_13
    | 14, _ => exact v4_14, m4, d4, by decide +kernel, by decide +kernel, rfl, by decide +kernel, by decide, by decide, po4⟩
theorem selfs {p : Nat} {pt : List D} {tb : List (D × List D)} {en : List (List Bool)} (C : Comp p pt tb en) : ∀ t ∈ tb.map (·.1), ∀ h, callN T 7 f_law_same [t, t] h = .ok (.bl true, false, h) ∧ callN T 10 f_law_same [t, t] h = .ok (.bl true, false, h) := by
  intro t ht h
  obtain ⟨q, hq, rfl⟩ := List.mem_map.mp ht
  have c := C.c _ hq
  unfold chkT at c
  simp only [Bool.and_eq_true] at c
  obtain ⟨⟨⟨⟨⟨⟨ct, _⟩, _⟩, _⟩, _⟩, s7⟩, s10⟩ := c
  have cl : (F_law_same.pure && clos [q.1, q.1]) = true := by simp [F_law_same, clos, ct]
  exact ⟨isB_any (F := F_law_same) rfl cl s7 h, isB_any (F := F_law_same) rfl cl s10 h⟩
theorem qf_of {p : Nat} {pt : List D} {tb : List (D × List D)} {en : List (List Bool)} (C : Comp p pt tb en) (e1 : ∀ h, callN T 10 f_law_told_frames [.int p] h = .ok (.lst (tb.map (·.1)), true, h)) (e2 : ∀ h, callN T 10 f_law_partitions [.int p] h = .ok (.lst pt, true, h))
    (a0 : ∀ s : Nat, s < 2 → ∀ h, callN T 10 f_law_asked [.int 0, .lst [.int p], .int s] h = .ok (.lst [sT, .ref h.length], true, h ++ [.lst (tb.map (·.1))])) (ln : ([.int 1, .int 6, .int 31] : List D)[p - 2]? = some (.int tb.length)) : QF 7 p pt tb where
  tf := fun q hq => tf_of C hq
  ap := by
    rw [List.pairwise_iff_getElem]
    intro i j hi hj hij
    exact ⟨C.d i j _ _ (List.getElem?_eq_getElem hi) (List.getElem?_eq_getElem hj) (by omega), C.d j i _ _ (List.getElem?_eq_getElem hj) (List.getElem?_eq_getElem hi) (by omega)⟩
  len := C.ltb
  same := sameT
  hp := C.lpt
  pv := C.pv
  e1 := e1
  e2 := e2
  a0 := a0
  s1 := fun t ht h => (selfs C t ht h).1
  s0 := same8
  ln := ln
theorem qf2 : QF 7 2 pt2 tb2 := qf_of comp2 ef2 ep2 (fun s hs h => two (P := fun s => callN T 10 f_law_asked [.int 0, .lst [.int 2], .int (s : Int)] h = _) (a2_0 h) (a2_1 h) s hs) rfl
theorem qf3 : QF 7 3 pt3 tb3 := qf_of comp3 ef3 ep3 (fun s hs h => two (P := fun s => callN T 10 f_law_asked [.int 0, .lst [.int 3], .int (s : Int)] h = _) (a3_0 h) (a3_1 h) s hs) rfl
theorem qf4 : QF 7 4 pt4 tb4 := qf_of comp4 ef4 ep4 (fun s hs h => two (P := fun s => callN T 10 f_law_asked [.int 0, .lst [.int 4], .int (s : Int)] h = _) (a4_0 h) (a4_1 h) s hs) rfl
/-- the own lists -/
def EvL (ev : List D) : Prop := ev = ev2 ∨ ev = ev3 ∨ ev = ev4
theorem evl_same {ev : List D} (h : EvL ev) : ev.length < 1000 ∧ ∀ t ∈ ev, ∀ g, callN T 10 f_law_same [t, t] g = .ok (.bl true, false, g) := by
  rcases h with rfl | rfl | rfl
  · exact ⟨by decide, fun t ht g => (selfs comp2 t ht g).2⟩
  · exact ⟨by decide, fun t ht g => (selfs comp3 t ht g).2⟩
  · exact ⟨by decide, fun t ht g => (selfs comp4 t ht g).2⟩
theorem posts_all {p : Nat} (hp : p = 2 ∨ p = 3 ∨ p = 4) {r hh tn : Nat} (hne : r ≠ hh) (ht : tn < 2) {held : List D} {h : Hp} (hh1 : h[hh]? = some (.lst held)) (hhl : held.length < 1000) {a c d : Int} {b : Bool} (hb : h[r]? = some (boxC a b c d)) (hc : 0 ≤ c ∧ c < 2147483648) (hd : 0 ≤ d ∧ d < 70000000000) :
    ∃ (a' d' : Int) (h' : Hp) (k : Nat) (ev : List D), EvL ev ∧ callN T 11 f_law_posts_right [.ref r, .int p, .int tn, .ref hh] h = .ok (.bl true, false, h') ∧ h'[r]? = some (boxC a' b c d') ∧ d ≤ d' ∧ d' ≤ d + 4000 ∧ h'[hh]? = some (.lst (held ++ [.lst [.ref k, .lst ev]])) ∧
      h.length ≤ k ∧ h'[k]? = some (.lst ev) ∧ Kp2 r hh h h' := by
  rcases hp with rfl | rfl | rfl
  · obtain ⟨a', d', h', k, q⟩ := posts_ok qf2 hne ht hh1 hhl hb hc hd
    exact ⟨a', d', h', k, ev2, .inl rfl, q⟩
  · obtain ⟨a', d', h', k, q⟩ := posts_ok qf3 hne ht hh1 hhl hb hc hd
    exact ⟨a', d', h', k, ev3, .inr (.inl rfl), q⟩
  · obtain ⟨a', d', h', k, q⟩ := posts_ok qf4 hne ht hh1 hhl hb hc hd
    exact ⟨a', d', h', k, ev4, .inr (.inr rfl), q⟩
end K13

set_option maxHeartbeats 4000000
namespace K13
open Rw
/-- what the law's own loops lean on, at level N; EvL: the own lists -/
structure LF (N : Nat) (EvL : List D → Prop) : Prop where
  cell : ∀ (ns : List Int) (k : Nat), k < 100 → ns.length < 100 → ∀ h, ∃ v, callN T N f_law_cell [.lst (ns.map D.int), .int k] h = .ok (.int v, false, h)
  box : ∀ (g : Int) (h : Hp), ∃ a b c, callN T N f_law_box [.int g] h = .ok (.ref h.length, false, h ++ [boxC a b c 0]) ∧ 0 ≤ c ∧ c < 2147483648
  take : TakeOk N
  mix : ∀ (r : Nat) (xs : List D) (a c d : Int) (b : Bool) (h : Hp), h[r]? = some (boxC a b c d) → xs.length < 100000 → 0 ≤ c ∧ c < 2147483648 → 0 ≤ d ∧ d + xs.length < 100000000000 →
    ∃ ys a' d' h', callN T N f_law_mixed [.ref r, .lst xs] h = .ok (.lst ys, true, h') ∧ ys.Perm xs ∧ h'[r]? = some (boxC a' b c d') ∧ d ≤ d' ∧ d' ≤ d + xs.length ∧ Kp r h h'
  post : ∀ {p : Nat}, (p = 2 ∨ p = 3 ∨ p = 4) → ∀ {r hh tn : Nat}, r ≠ hh → tn < 2 → ∀ {held : List D} {h : Hp}, h[hh]? = some (.lst held) → held.length < 1000 → ∀ {a c d : Int} {b : Bool}, h[r]? = some (boxC a b c d) → 0 ≤ c ∧ c < 2147483648 → 0 ≤ d ∧ d < 70000000000 →
    ∃ (a' d' : Int) (h' : Hp) (k : Nat) (ev : List D), EvL ev ∧ callN T N f_law_posts_right [.ref r, .int p, .int tn, .ref hh] h = .ok (.bl true, false, h') ∧ h'[r]? = some (boxC a' b c d') ∧ d ≤ d' ∧ d' ≤ d + 4000 ∧ h'[hh]? = some (.lst (held ++ [.lst [.ref k, .lst ev]])) ∧
      h.length ≤ k ∧ h'[k]? = some (.lst ev) ∧ Kp2 r hh h h'
  ref : ∀ {r tn : Nat}, tn < 2 → ∀ {h : Hp} {a c d : Int} {b : Bool}, h[r]? = some (boxC a b c d) → 0 ≤ c ∧ c < 2147483648 → 0 ≤ d ∧ d < 70000000000 →
    ∃ (a' d' : Int) (h' : Hp), callN T N f_law_refused [.ref r, .int tn] h = .ok (.bl true, false, h') ∧ h'[r]? = some (boxC a' b c d') ∧ d ≤ d' ∧ d' ≤ d + 100 ∧ Kp r h h'
  same : ∀ ev, EvL ev → ∀ (k : Nat) (H : Hp), H[k]? = some (.lst ev) → callN T N f_law_same [.ref k, .lst ev] H = .ok (.bl true, false, H)
/-- what is held: lists that stay as they were told -/
def Held (EvL : List D → Prop) (h : Hp) (e : D) : Prop := ∃ (k : Nat) (ev : List D), e = .lst [.ref k, .lst ev] ∧ EvL ev ∧ h[k]? = some (.lst ev) ∧ k ≠ 0
section
variable {N : Nat} {EvL : List D → Prop}
abbrev LE (sc : List D) (x2 x3 x4 x5 x6 x7 : Option Sl) : Env := [some ⟨.lst sc, false⟩, some ⟨.ref 0, false⟩, x2, x3, x4, x5, x6, x7]
theorem Held.kp2 {r : Nat} {h h' : Hp} {e : D} (x : Held EvL h e) (kp : Kp2 r 0 h h') (hr : ∀ k ev, e = .lst [.ref k, .lst ev] → k ≠ r) : Held EvL h' e := by
  obtain ⟨k, ev, rfl, e1, e2, e3⟩ := x
  exact ⟨k, ev, rfl, e1, Kp2.at kp e2 (hr k ev rfl) e3, e3⟩
/-- one of the script's numbers -/
theorem law_turn (F : LF N EvL) (ns : List Int) (hl : ns.length < 100) {k : Nat} (hk : k < 100) {x3 x4 x5 x6 x7 : Option Sl} {h : Hp} {held : List D} (h0 : h[0]? = some (.lst held)) (hh : held.length < 500) (ho : ∀ e ∈ held, Held EvL h e) :
    ∃ (y3 y4 y5 : Option Sl) (h' : Hp) (held' : List D), evSs (T.pg (callN T N)) none l_law_1 (LE (ns.map D.int) (some ⟨.int k, false⟩) x3 x4 x5 x6 x7) h = .nx (LE (ns.map D.int) (some ⟨.int k, false⟩) y3 y4 y5 x6 x7) h' ∧ h'[0]? = some (.lst held') ∧ held'.length ≤ held.length + 3 ∧ ∀ e ∈ held', Held EvL h' e := by
  obtain ⟨v, q1⟩ := F.cell ns k hk hl h
  obtain ⟨a, b, c, q2, hc⟩ := F.box v h
  have l0 := lt_of_at h0
  let h1 : Hp := h ++ [boxC a b c 0]
  let r := h.length
  have b1 : h1[r]? = some (boxC a b c 0) := by simp [h1, r]
  have g1 : h1[0]? = some (.lst held) := by rw [show h1 = h ++ [boxC a b c 0] from rfl, List.getElem?_append_left l0]; exact h0
  have r0 : r ≠ 0 := by show h.length ≠ 0; omega
  obtain ⟨i, a2, d2, q3, i1, i2, i3, i4⟩ := F.take r 2 a c 0 b h1 b1 (by decide) hc (by decide)
  obtain ⟨tn, rfl⟩ : ∃ tn : Nat, i = tn := ⟨i.toNat, by omega⟩
  let h2 : Hp := h1.set r (boxC a2 b c d2)
  have b2 : h2[r]? = some (boxC a2 b c d2) := set_at b1 _
  obtain ⟨ys, a3, d3, h3, q4, pm, b3, j1, j2, kp3⟩ := F.mix r [.int 2, .int 3, .int 4] a2 c d2 b h2 b2 (by decide) hc ⟨by omega, by simp; omega⟩
  have j2 : d3 ≤ d2 + 3 := j2
  have kp2 : Kp r h h2 := (Kp.app _).trans .set
  have kp : Kp r h h3 := kp2.trans kp3
  have g3 : h3[0]? = some (.lst held) := kp.at h0 (Ne.symm r0)
  -- held entries are elsewhere
  have out : ∀ e ∈ held, ∀ k ev, e = .lst [.ref k, .lst ev] → k < h.length := fun e he k ev ee => by
    obtain ⟨k', ev', e1, _, e2, _⟩ := ho e he
    rw [ee] at e1
    cases e1
    exact lt_of_at e2
  obtain ⟨env4, h4, q5, tn4, y5, held4, a4, d4, ht4, ee4, b4, p1, p2, g4, ln4, ho4⟩ := forGo_all (chk := stays (.lst ys) ys) (t := .n 5) (b := evSs (T.pg (callN T N)) none l_law_0) (ds := ys) (h := h3) (env := LE (ns.map D.int) (some ⟨.int k, false⟩) (some ⟨.ref r, false⟩) (some ⟨.int tn, false⟩) x5 x6 x7)
    (fun pre env g => ∃ (tn' : Nat) (y5 : Option Sl) (held' : List D) (a' d' : Int), tn' < 2 ∧ env = LE (ns.map D.int) (some ⟨.int k, false⟩) (some ⟨.ref r, false⟩) (some ⟨.int tn', false⟩) y5 x6 x7 ∧ g[r]? = some (boxC a' b c d') ∧ d3 ≤ d' ∧ d' ≤ d3 + 4000 * pre.length ∧ g[0]? = some (.lst held') ∧ held'.length = held.length + pre.length ∧
      ∀ e ∈ held', Held EvL g e ∧ ∀ k ev, e = .lst [.ref k, .lst ev] → k ≠ r)
    (fun _ _ _ => rfl) ⟨tn, x5, held, a3, d3, by omega, rfl, b3, by omega, by simp, g3, rfl, fun e he => ⟨(ho e he).kp2 (Kp.two kp) fun k ev ee => by have := out e he k ev ee; show k ≠ h.length; omega, fun k ev ee => by have := out e he k ev ee; show k ≠ h.length; omega⟩⟩
    fun pre x post hsp env g ⟨tn', y5, held', a', d', ht', ee, bb, p1, p2, gg, ln, hoo⟩ => by
      subst ee
      have lp : pre.length + 1 + post.length = 3 := by
        have e1 := congrArg List.length hsp
        have e2 := pm.length_eq
        simp at e1 e2
        omega
      have hx : x ∈ ([.int 2, .int 3, .int 4] : List D) := pm.subset (by rw [hsp]; simp)
      obtain ⟨p, rfl, hp⟩ : ∃ p : Nat, x = .int p ∧ (p = 2 ∨ p = 3 ∨ p = 4) := by
        simp only [List.mem_cons, List.not_mem_nil, or_false] at hx
        rcases hx with rfl | rfl | rfl
        · exact ⟨2, rfl, .inl rfl⟩
        · exact ⟨3, rfl, .inr (.inl rfl)⟩
        · exact ⟨4, rfl, .inr (.inr rfl)⟩
      obtain ⟨a'', d'', g', k', ev, hev, e, bb', r1, r2, gg', hk', ek, kk⟩ := F.post hp r0 ht' gg (by omega) bb hc ⟨by omega, by omega⟩
      have lb := lt_of_at bb
      refine ⟨rfl, LE (ns.map D.int) (some ⟨.int k, false⟩) (some ⟨.ref r, false⟩) (some ⟨.int tn', false⟩) (some ⟨.int p, false⟩) x6 x7, LE (ns.map D.int) (some ⟨.int k, false⟩) (some ⟨.ref r, false⟩) (some ⟨.int ((1 - tn' : Nat) : Int), false⟩) (some ⟨.int p, false⟩) x6 x7, g', rfl, .inl ?_,
        1 - tn', _, held' ++ [.lst [.ref k', .lst ev]], a'', d'', by omega, rfl, bb', by omega, by simp only [List.length_append, List.length_cons, List.length_nil]; omega, gg', by simp only [List.length_append, List.length_cons, List.length_nil]; omega, fun w hw => ?_⟩
      · refine (ss_nx (s_frz.trans (s_ifF (o := false) (e_not (k := true) (e_call (es_cons' (e_var rfl rfl) (es_cons' (e_var rfl rfl) (es_cons' (e_var rfl rfl) (es_cons' (e_var rfl rfl) es_nil')))) e)) ss_nil))).trans ((ss_nx ?_).trans ss_nil)
        refine (s_asg (d := .int ((1 - tn' : Nat) : Int)) (o := false) (h1 := g') ?_ (by simp [frzE])).trans rfl
        refine e_bin e_con (e_var rfl rfl) ?_
        rw [op_sub]
        congr 3; omega
      · rcases List.mem_append.mp hw with hw | hw
        · obtain ⟨w1, w2⟩ := hoo w hw
          exact ⟨w1.kp2 kk w2, w2⟩
        · rw [List.mem_singleton] at hw
          subst hw
          refine ⟨⟨k', ev, rfl, hev, ek, by omega⟩, fun k2 ev2 e2 => ?_⟩
          cases e2
          omega
  subst ee4
  have ysl : ys.length = 3 := pm.length_eq
  rw [ysl] at p2 ln4
  obtain ⟨a5, d5, h5, q6, b5, r1, r2, kp5⟩ := F.ref ht4 b4 hc ⟨by omega, by omega⟩
  refine ⟨some ⟨.ref r, false⟩, some ⟨.int tn4, false⟩, y5, h5, held4, ?_, kp5.at g4 (Ne.symm r0), by omega, fun e he => (ho4 e he).1.kp2 (Kp.two kp5) (ho4 e he).2⟩
  refine (ss_nx ((s_asg (d := .ref r) (o := false) (h1 := h1) (e_call (es_cons' (e_call (es_cons' (e_var rfl rfl) (es_cons' (e_var rfl rfl) es_nil')) q1) es_nil') q2) (by simp)).trans rfl)).trans ?_
  refine (ss_nx (s_frz.trans ((s_asg (d := .int tn) (o := false) (h1 := h2) (e_call (es_cons' (e_var rfl rfl) (es_cons' e_con es_nil')) q3) (by simp [frzE])).trans rfl))).trans ?_
  refine (ss_nx (s_frz.trans ((s_for (it_seq (d := .lst ys) (o := true) (h1 := h3) (e_call (es_cons' (e_var rfl rfl) (es_cons' (e_lst (es_cons' e_con (es_cons' e_con (es_cons' e_con es_nil'))) (by show 3 ≤ 100000; decide)) es_nil')) q4) rfl)).trans q5))).trans ?_
  exact (ss_nx (s_frz.trans (s_ifF (o := false) (e_not (k := true) (e_call (es_cons' (e_var rfl rfl) (es_cons' (e_var rfl rfl) es_nil')) q6)) ss_nil))).trans ss_nil
theorem law_core (F : LF N EvL) (ns : List Int) (hl : ns.length < 100) : ∃ h, callN T (N + 1) f_law [.lst (ns.map D.int)] [] = .ok (.bl true, false, h) := by
  have hm : ∃ m : Nat, m < 10 ∧ evI (T.pg (callN T N)) none true (.rng1 (.blt .max2 (.cons (.con (.int 1)) (.cons (.blt .min2 (.cons (.con (.int 2)) (.cons (.blt .len (.cons (.var 0) .nil)) .nil))) .nil)))) (LE (ns.map D.int) none none none none none none) [.lst []] = .ok (.non, rng 0 m, [.lst []]) := by
    refine ⟨(if (if ((ns.map D.int).length : Int) < 2 then ((ns.map D.int).length : Int) else 2) > 1 then (if ((ns.map D.int).length : Int) < 2 then ((ns.map D.int).length : Int) else 2) else 1).toNat, by split <;> split <;> omega, ?_⟩
    refine it_rng1 (o := false) (e_blt (es_cons' e_con (es_cons' (e_blt (es_cons' e_con (es_cons' (e_blt (es_cons' (e_var rfl rfl) es_nil') b_lenL) es_nil')) v_min2) es_nil')) v_max2) ?_ ?_
    · split <;> split <;> omega
    · split <;> split <;> omega
  obtain ⟨m, hm, w⟩ := hm
  obtain ⟨env', h', q, x2, x3, x4, x5, held, ee, g, ln, ho⟩ := forGo_all (chk := stays .non (rng 0 m)) (t := .n 2) (b := evSs (T.pg (callN T N)) none l_law_1) (ds := rng 0 m) (h := [.lst []]) (env := LE (ns.map D.int) none none none none none none)
    (fun pre env g => ∃ (x2 x3 x4 x5 : Option Sl) (held : List D), env = LE (ns.map D.int) x2 x3 x4 x5 none none ∧ g[0]? = some (.lst held) ∧ held.length ≤ 3 * pre.length ∧ ∀ e ∈ held, Held EvL g e)
    (fun _ _ _ => rfl) ⟨none, none, none, none, [], rfl, rfl, Nat.zero_le _, (fun _ z => nomatch z)⟩ fun pre x post hsp env g ⟨x2, x3, x4, x5, held, ee, gg, ln, ho⟩ => by
      subst ee
      have lp : pre.length + 1 + post.length = m := by
        have := congrArg List.length hsp
        simp [rng] at this
        omega
      obtain ⟨k, hk, rfl⟩ := rng_mem (show x ∈ rng 0 m by rw [hsp]; simp)
      obtain ⟨y3, y4, y5, g', held', e, g0, l0, ho'⟩ := law_turn F ns hl (k := k) (by omega) (x3 := x3) (x4 := x4) (x5 := x5) (x6 := none) (x7 := none) gg (by omega) ho
      exact ⟨rfl, _, _, g', rfl, .inl e, _, y3, y4, y5, held', rfl, g0, by simp only [List.length_append, List.length_cons, List.length_nil]; omega, ho'⟩
  subst ee
  rw [rng_len] at ln
  refine ⟨h', ?_⟩
  rw [callN_step (F := F_law) rfl rfl]
  refine fn_rt rfl (env := [some ⟨.lst (ns.map D.int), false⟩, none, none, none, none, none, none, none]) rfl ?_
  refine (ss_nx (env1 := LE (ns.map D.int) none none none none none none) (h1 := [.lst []]) ?_).trans ?_
  · exact (s_asg (d := .ref 0) (o := false) (h1 := [.lst []]) (by simp [evE, evEs]) (by simp)).trans rfl
  refine (ss_nx ((s_for w).trans q)).trans ?_
  refine ss_rt (s_ret (e_cmp (x := .lst []) (y := .lst []) (o := true) (o2 := true) (h1 := h') (h2 := h') ?_ rfl cm_eqL0))
  have z := e_lcIf (P := T.pg (callN T N)) (cx := none) (cap := false) (e := .con (.int 1)) (c := .not_ (.call 21 (.cons (.var 6) (.cons (.var 7) .nil)))) (t := .t (.cons (.n 6) (.cons (.n 7) .nil))) (w := .seq (.var 1)) (own := [6, 7]) (env := LE (ns.map D.int) x2 x3 x4 x5 none none) (h := h') (h1 := h') (src := .ref 0) (xs := held) (g := fun d => d) (p := fun _ => false)
    (it_seq (o := false) (e_var rfl rfl) (seqOf_ref g)) (stays_ref g) (le_max (by omega)) fun d hd => by
      obtain ⟨k, ev, rfl, e1, e2, e3⟩ := ho d hd
      exact ⟨LE (ns.map D.int) x2 x3 x4 x5 (some ⟨.ref k, false⟩) (some ⟨.lst ev, false⟩), false, rfl, e_not (k := true) (e_call (es_cons' (e_var rfl rfl) (es_cons' (e_var rfl rfl) es_nil')) (F.same ev e1 k h' e2)), fun z => by cases z⟩
  have e0 : ((held.filter fun _ => false).map fun d => d) = [] := by simp
  rw [e0] at z
  exact z
end
end K13

set_option maxHeartbeats 4000000
namespace K13
open Rw
theorem lf : LF 11 EvL where
  cell := cell_ok 10
  box := box_ok 10
  take := take_all 10
  mix := fun r xs a c d b h h1 h2 h3 h4 => mixed_ok 9 r xs a c d b h h1 h2 h3 h4
  post := fun hp _ _ _ hne ht _ _ hh hl _ _ _ _ hb hc hd => posts_all hp hne ht hh hl hb hc hd
  ref := fun ht _ _ _ _ _ hb hc hd => refused_ok ht hb hc hd
  same := fun ev hev k H hk => same_ref hk (evl_same hev).1 (evl_same hev).2
theorem law_true : ∀ ns : List Int, ns.length ≤ 63 → ∃ h, callN T 12 f_law [.lst (ns.map D.int)] [] = .ok (.bl true, false, h) := fun ns hl => law_core lf ns (by omega)
end K13

set_option maxHeartbeats 0
namespace K13
open PySem PySem.Spec PyProof.Rows L2 Rw
abbrev R : PySem.W.OpenRow := PySem.W.OpenLaw.row PySem.Challenge.rw_relywide_k13_told_frames_and_what_they_j
def ob (s : PySem.W.SharedT) : He.AlD := Z.obsG 4 (HandSHeadRun.getT s)
theorem ob_eq (s : PySem.W.SharedT) : ob s = (Z.hook 4).obs s.abs := Z.obsG_eq (HandSHeadRun.getT_eq s)
def loose0 : List Str := ["InvalidMany", "InvalidPartition", "InvalidTold", "LEAST_POSTS", "MOST_POSTS", "RelyError", "_law_asked", "_law_box", "_law_cell", "_law_is_int", "_law_is_partition", "_law_is_told", "_law_joins", "_law_label", "_law_merge", "_law_mixed", "_law_near", "_law_partitions", "_law_posts_right", "_law_refused", "_law_same", "_law_take", "_law_told_frames", "_law_united", "check_posts", "count_lots", "is_index", "is_integer", "is_partition_of", "is_told"]
def loose1 : List Str := ["is_told_of", "is_tuple", "is_within", "joins", "joins_by", "lots_of", "partitions_of", "relabeled", "told_frames", "told_frames_of", "united_of"]
def loose : List Str := loose0 ++ (loose1)
theorem run (w : World) : HandSHeadRun.RunEq R (PySem.W.view R.prog [47]) (Z.hook 4) ob 4000 loose w := by
  intro os
  kernel_rfl
theorem walk (hlaw : ∀ ns : List Int, ns.length ≤ 63 → (∀ z ∈ ns, Builtin.Int.intBits z ≤ 1048576) → ∃ h, callN T 12 f_law [.lst (ns.map D.int)] [] = .ok (.bl true, false, h)) :
    PySem.W.WalkO (PySem.W.view R.prog [47]) loose (PySem.W.XL (PySem.W.view R.prog [47]) []) (Z.hook 4).says R.toRowW (HandSHeadRun.topDef R.prog 47) [] (fun f vs => PySem.call f vs) := by
  have en : (HandSHeadRun.topDef R.prog 47).name = ("law" : PySem.Str) := by kernel_rfl
  refine law_walk (l := PySem.Challenge.rw_relywide_k13_told_frames_and_what_they_j) (n := 63) (k := 11) (L := Z.tb) (iL := f_law) (x := "script") rfl (by decide) (by kernel_rfl) ⟨rfl, by decide, by decide⟩ (by rw [en]; rfl) ?_ hlaw
  rintro w mg h ⟨K, KX, c⟩ G
  refine ⟨K, Z.ca K, KX, fun base _ _ => Lw.wr_ok c KX G ?_ ?_ ?_ (by decide) hi base, Lw.defs_ok c KX G hd ?_⟩
  · intro i d e
    match i, e with
    | 0, e => cases (show some (.int 2) = some d from e); exact ⟨"LEAST_POSTS", rfl⟩
    | 1, e => cases (show some (.int 4) = some d from e); exact ⟨"MOST_POSTS", rfl⟩
    | n + 2, e => cases (show (none : Option D) = some d from e)
  · intro k hk
    exact if_pos hk
  · intro k c
    have nn : ∀ k, nz (nz k) = nz k := fun k => by
      unfold nz
      by_cases q : k < 3
      · rw [if_pos q, if_pos q]
      · rw [if_neg q]; rfl
    show (nz k == nz c) = (nz (Z.nz k) == nz (Z.nz c))
    have e : ∀ k, Z.nz k = nz k := fun _ => rfl
    rw [e, e, nn, nn]
  · intro i d e n ks perm hm kV doc pm an cdv ct us ws z
    have hm : (n, ks, perm) ∈ kw i := hm
    unfold kw at hm
    split at hm
    · cases (show some d_told_frames = some d from e)
      simp only [List.mem_cons, List.not_mem_nil, or_false, Prod.mk.injEq] at hm
      rcases hm with ⟨rfl, rfl, rfl⟩
      · exact k_told_frames_0 kV doc pm an cdv ct us ws z
    · cases (show some d_is_told = some d from e)
      simp only [List.mem_cons, List.not_mem_nil, or_false, Prod.mk.injEq] at hm
      rcases hm with ⟨rfl, rfl, rfl⟩
      · exact k_is_told_0 kV doc pm an cdv ct us ws z
    · cases (show some d_joins = some d from e)
      simp only [List.mem_cons, List.not_mem_nil, or_false, Prod.mk.injEq] at hm
      rcases hm with ⟨rfl, rfl, rfl⟩
      · exact k_joins_0 kV doc pm an cdv ct us ws z
    · cases hm
end K13
open PySem PySem.W PySem.Calls PyProof.Rows
theorem K13.holds (hlaw : ∀ ns : List Int, ns.length ≤ 63 → (∀ z ∈ ns, Builtin.Int.intBits z ≤ 1048576) → ∃ h, Rw.callN K13.T 12 K13.f_law [.lst (ns.map Rw.D.int)] [] = .ok (.bl true, false, h)) : PySem.Challenge.rw_relywide_k13_told_frames_and_what_they_j.Holds := by
  w_on; o_law
  refine HandSHeadRun.head_any (r := OpenLaw.row PySem.Challenge.rw_relywide_k13_told_frames_and_what_they_j) (q := view (OpenLaw.row PySem.Challenge.rw_relywide_k13_told_frames_and_what_they_j).prog [47]) (H := K13.Z.hook 4) (ob := K13.ob) (M := 4000) (loose := K13.loose) (d := HandSHeadRun.topDef (OpenLaw.row PySem.Challenge.rw_relywide_k13_told_frames_and_what_they_j).prog 47) (kwd := []) K13.ob_eq
    (by kernel_rfl) (fun s => by kernel_rfl) K13.run (by kernel_rfl) (by kernel_rfl) (by kernel_rfl) (by rfl) (by first | assumption | decide +kernel) (by decide +kernel) ⟨rfl, rfl, rfl, rfl, rfl, by decide +kernel⟩ ?hw ?hc
  case hw => w_witness2
  case hc => exact K13.walk hlaw

open PySem PySem.W PyProof.Rows
set_option maxHeartbeats 0 in
theorem PySem.Challenge.cw_relywide_k13_told_frames_and_what_they_j_holds : PySem.Challenge.rw_relywide_k13_told_frames_and_what_they_j.Holds := by
  exact K13.holds fun ns hl _ => K13.law_true ns hl
