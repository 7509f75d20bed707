import PyProof.Rows.All
import Wide.All
import OpenK.AllK
import Wide.FinOn
import HandS.Base
import HandS.Call
import HandS.List
import HandS.Comp
import HandS.Iter
import KE.DataCmp
import KE.DataMinMax
import KE.SortData
import PyProof.StrLawsRepr
import PyProof.FitsInt
import HandS.Words
import HandS.IsInst
import HandS.Conv
import HandS.Style
import HandS.TupAny
import HandS.TupMul
import HandS.Defaults
import KE.KTupSum
import PyProof.ReprRoads
import PyProof.CallFns
import HandS.Walk
import KE.GoesNew
import HandS.Exc
import HandS.Ends
import HandS.HeadEnd
import HandS.HeadHook2
import KE.KStateDown
import Lean
import HandS.More
import HandS.WordsExc
import HandS.Head0
import HandS.Head1
import HandS.Head2
import HandS.HeadHook1
import PySem.Challenge.RW_payingpit_k91_whole_tables_and_lines
set_option Elab.async false
set_option linter.all false
set_option maxRecDepth 100000
section
/-! Mi0: a small language (T, G, S), its data, its evaluator. -/
namespace Mi
open PySem

abbrev D := PyData

/-- data with owned parts -/
inductive O where
  | val (d : D)
  | lst (os : List O)
  | tup (os : List O)
  | fn (k : Nat)
  | scr (ns : List Int)

abbrev En := List (Option O)

inductive Bop where | add | sub | mul | fdiv | mod | pow
  deriving DecidableEq
inductive Cop where | eq | ne | lt | le | gt | ge | is_ | isnt | inn | notin
  deriving DecidableEq
inductive Bi where
  | len | abs | max2 | min2 | max1 | min1 | sum | all | any | divmod | int | list | tuple | sorted | repr | str
  deriving DecidableEq

/-- what is walked: a list or tuple, a range, enumerate, zip -/
inductive Sk where | seq | rng | enm | zip
  deriving DecidableEq

mutual
/-- targets -/
inductive G where
  | nm (i : Nat)
  | nil
  | cons (g gs : G)
  | tp (gs : G)
  | sb (o i : T)
/-- expressions -/
inductive T where
  | var (i : Nat)
  | con (c : D)
  | glo (j : Nat)
  | fn (k : Nat)
  | bin (op : Bop) (a b : T)
  | not (a : T)
  | neg (a : T)
  | and (a b : T)
  | or (a b : T)
  | cmp (op : Cop) (a b : T)
  | cmp2 (p q : Cop) (a b c : T)
  | ife (c a b : T)
  | tup (as : T)
  | lst (as : T)
  | nil
  | cons (a r : T)
  | idx (a b : T)
  | slc (a lo hi : T)
  | rev (a : T)
  | lc (e : T) (g : G) (k : Sk) (it c : T) (own : List (Str × Nat))
  | call (k : Nat) (as : T)
  | callk (k : Nat) (as ks : T) (nm : List Str) (pm : List Nat)
  | ino (i : Nat)
  | bi (b : Bi) (as : T)
  | isi (a : T) (cs : List String)
  | lrg (a : T)
  | lrg2 (a b : T)
  | app (o a : T)
  | ext (o a : T)
  | pop (o : T)
  | popi (o a : T)
end

/-- statements -/
inductive S where
  | set (g : G) (e : T)
  | aug (i : Nat) (op : Bop) (e : T)
  | augs (o i : T) (op : Bop) (e : T)
  | ex (e : T)
  | ret (e : T)
  | ite (c : T) (a b : S)
  | whl (c : T) (b : S)
  | for_ (g : G) (k : Sk) (it : T) (b : S)
  | pass
  | brk
  | cont
  | sq (a b : S)
  | nop
  | dead
end Mi

end
section
/-! Mi1: the evaluator. -/
namespace Mi
open PySem L2

/-! ### parts of data -/
mutual
def O.toD : O → Option D
  | .val d => some d
  | .lst os => (toDs os).map PyData.list
  | .tup os => (toDs os).map PyData.tuple
  | .fn _ => none
  | .scr _ => none
def toDs : List O → Option (List D)
  | [] => some []
  | o :: os => match o.toD, toDs os with
    | some d, some ds => some (d :: ds)
    | _, _ => none
end
/-- what is given is looked at as it is -/
def fz (o : O) : O := match o.toD with
  | some d => .val d
  | none => o
/-- .. but for changed parameters -/
def fzL : List Bool → List O → List O
  | false :: bs, o :: os => fz o :: fzL bs os
  | true :: bs, o :: os => o :: fzL bs os
  | _, _ => []
/-- all are plain -/
def vals : List O → Option (List D)
  | [] => some []
  | .val d :: os => (vals os).map (d :: ·)
  | _ :: _ => none
/-- the content where only the outermost part is owned -/
def O.sh : O → Option D
  | .val d => some d
  | .lst os => (vals os).map PyData.list
  | .tup os => (vals os).map PyData.tuple
  | _ => none
def O.isVal : O → Bool
  | .val _ => true
  | .fn _ => true
  | .scr _ => true
  | _ => false
def intL : List D → Option (List Int)
  | [] => some []
  | .int i :: ds => (intL ds).map (i :: ·)
  | _ :: _ => none
def boolL : List D → Option (List Bool)
  | [] => some []
  | .bool i :: ds => (boolL ds).map (i :: ·)
  | _ :: _ => none

def cutL {α : Type} (xs : List α) (lo hi : Option Int) : List α := (xs.drop (HT.sIx xs.length 0 lo)).take (HT.sIx xs.length xs.length hi - HT.sIx xs.length 0 lo)

/-! ### operators -/
def iv (i : Int) : Option O := some (.val (.int i))
def bv (b : Bool) : Option O := some (.val (.bool b))
def lstv (ds : List D) : Option O := if ds.length ≤ sizeLine then some (.lst (ds.map O.val)) else none
def tupv (ds : List D) : Option O := if ds.length ≤ sizeLine then some (.val (.tuple ds)) else none
def mulOk (i j : Int) : Bool := (decide (-(2 ^ 64) < i) && decide (i < 2 ^ 64)) || (decide (-(2 ^ 64) < j) && decide (j < 2 ^ 64))
def binD : Bop → D → D → Option O
  | .add, .int i, .int j => iv (i + j)
  | .sub, .int i, .int j => iv (i - j)
  | .mul, .int i, .int j => if mulOk i j then iv (i * j) else none
  | .fdiv, .int i, .int j => if 0 < j ∧ j < 1073741824 then iv (i / j) else none
  | .mod, .int i, .int j => if 0 < j then iv (i % j) else none
  | .pow, .int i, .int j => if 0 ≤ j ∧ j ≤ 1000000 ∧ i.natAbs < 2 ^ 64 then iv (i ^ j.toNat) else none
  | .add, .str x, .str y => if x.length + y.length ≤ sizeLine then some (.val (.str (x ++ y))) else none
  | .add, .tuple xs, .tuple ys => tupv (xs ++ ys)
  | .add, .list xs, .list ys => lstv (xs ++ ys)
  | .mul, .list xs, .int k => if -(2 ^ 63) ≤ k ∧ k < 2 ^ 63 then lstv (List.replicate k.toNat xs).flatten else none
  | .mul, .tuple xs, .int k => if 2 ≤ k ∧ k ≤ 1000 ∧ xs ≠ [] ∧ xs.length ≤ 1000 then some (.val (.tuple (List.replicate k.toNat xs).flatten)) else none
  | _, _, _ => none

/-- in place -/
def augD : Bop → D → D → Option O
  | .pow, _, _ => none
  | op, .int i, .int j => binD op (.int i) (.int j)
  | .add, .str x, .str y => binD .add (.str x) (.str y)
  | _, _, _ => none
def scalD : D → D → Bool
  | .none, .none => true | .none, .int _ => true | .int _, .none => true | .none, .bool _ => true | .bool _, .none => true | .none, .str _ => true | .str _, .none => true
  | .int _, .int _ => true | .bool _, .bool _ => true | .str _, .str _ => true
  | .int _, .str _ => true | .str _, .int _ => true | .bool _, .str _ => true | .str _, .bool _ => true
  | _, _ => false
def eqOk (a b : D) : Bool := scalD a b || (SeqAt.shaped a && SeqAt.shaped b)
def flatD : D → Bool
  | .none => true
  | .bool _ => true
  | .int _ => true
  | .str _ => true
  | _ => false
def isNone : D → Bool
  | .none => true
  | _ => false
def ordOk (a b : D) : Bool := PySem.W.alike a b && !isNone a && decide (min a.depth b.depth ≤ 64)
def cmpD : Cop → D → D → Option Bool
  | .eq, a, b => if eqOk a b then some (PyData.eqv a b) else none
  | .ne, a, b => if eqOk a b then some (!PyData.eqv a b) else none
  | .is_, a, .none => some (isNone a)
  | .isnt, a, .none => some (!isNone a)
  | .is_, .bool a, .bool b => some (decide (a = b))
  | .isnt, .bool a, .bool b => some (!decide (a = b))
  | .lt, .int i, .int j => some (decide (i < j))
  | .le, .int i, .int j => some (decide (i ≤ j))
  | .gt, .int i, .int j => some (decide (j < i))
  | .ge, .int i, .int j => some (decide (j ≤ i))
  | .lt, .tuple xs, .tuple ys => match intL xs, intL ys with
    | some a, some b => some (HT.lexLt a b)
    | _, _ => none
  | .inn, a, .list ys => if flatD a && ys.all flatD then some (ys.any fun y => PyData.eqv y a) else none
  | .inn, a, .tuple ys => if flatD a && ys.all flatD then some (ys.any fun y => PyData.eqv y a) else none
  | .notin, a, .list ys => if flatD a && ys.all flatD then some (!ys.any fun y => PyData.eqv y a) else none
  | .notin, a, .tuple ys => if flatD a && ys.all flatD then some (!ys.any fun y => PyData.eqv y a) else none
  | .lt, a, b => if ordOk a b then some (PySem.W.dataLt a b) else none
  | .gt, a, b => if ordOk a b then some (PySem.W.dataLt b a) else none
  | .le, a, b => if ordOk a b then some (!PySem.W.dataLt b a) else none
  | .ge, a, b => if ordOk a b then some (!PySem.W.dataLt a b) else none
  | _, _, _ => none

/-! ### built-ins -/
def tupB : D → Bool
  | .tuple (_ :: _) => true
  | _ => false
def othB : D → Bool
  | .none => false
  | .tuple _ => false
  | _ => true
/-- rows that are sorted -/
def srtOk (ds : List D) : Bool := ds.all (fun d => ds.all (PySem.W.alike d)) && (ds.all tupB || ds.all othB) && ds.all (fun d => decide (d.depth ≤ 60)) && decide (ds.length ≤ sizeLine)
def minOk (ds : List D) : Bool := ds.all (fun d => ds.all (PySem.W.alike d)) && ds.all (fun d => !isNone d) && ds.all (fun d => decide (d.depth ≤ 60))
def repOk (d : D) : Bool := d.showable && decide (d.depth ≤ 64) && decide (d.shown.length ≤ sizeLine)
def leastL : Int → List Int → Int
  | m, [] => m
  | m, i :: r => leastL (if i < m then i else m) r
def greatL : Int → List Int → Int
  | m, [] => m
  | m, i :: r => greatL (if m < i then i else m) r
def seqD : D → Option (List D)
  | .list ds => some ds
  | .tuple ds => some ds
  | _ => none
def biD : Bi → List D → Option O
  | .abs, [.int i] => iv (if i < 0 then -i else i)
  | .max2, [.int i, .int j] => iv (if j > i then j else i)
  | .min2, [.int i, .int j] => iv (if j < i then j else i)
  | .divmod, [.int i, .int j] => if 0 < j ∧ j < 1073741824 then some (.val (.tuple [.int (i / j), .int (i % j)])) else none
  | .int, [.int i] => iv i
  | .int, [.bool b] => iv (if b then 1 else 0)
  | .str, [.int i] => if i.natAbs.log2 < 1920 then some (.val (.str (toString i))) else none
  | .sum, [.list ds] => (intL ds).map fun ns => .val (.int ns.sum)
  | .sum, [.tuple ds] => (intL ds).map fun ns => .val (.int ns.sum)
  | .all, [.list ds] => (boolL ds).map fun bs => .val (.bool (bs.all id))
  | .any, [.list ds] => (boolL ds).map fun bs => .val (.bool (bs.any id))
  | .max1, [.list ds] => match intL ds with
    | some (i :: r) => iv (greatL i r)
    | _ => none
  | .min1, [.list ds] => match intL ds with
    | some (i :: r) => iv (leastL i r)
    | _ => (match ds with
      | d :: r => if minOk (d :: r) then some (.val (PySem.W.minD d r)) else none
      | [] => none)
  | .sorted, [.list ds] => if srtOk ds then some (.lst ((ds.mergeSort (PySem.W.dataLe false fun d => d)).map O.val)) else none
  | .list, [.list ds] => some (.lst (ds.map O.val))
  | .list, [.tuple ds] => some (.lst (ds.map O.val))
  | .tuple, [.list ds] => some (.val (.tuple ds))
  | .tuple, [.tuple ds] => some (.val (.tuple ds))
  | _, _ => none
def biE : Bi → List O → Option O
  | .len, [.lst os] => iv os.length
  | .len, [.tup os] => iv os.length
  | .len, [.scr ns] => iv ns.length
  | .len, [.val (.list ds)] => iv ds.length
  | .len, [.val (.tuple ds)] => iv ds.length
  | .len, [.val (.str z)] => if z.length ≤ sizeLine then iv z.length else none
  | .repr, [o] => match o.toD with
    | some d => if repOk d then some (.val (.str d.shown)) else none
    | none => none
  | .sum, [.scr ns] => iv ns.sum
  | b, os => match os with
    | [o] => match o.sh with
      | some d => biD b [d]
      | none => none
    | [o, p] => match o.sh, p.sh with
      | some d, some e => biD b [d, e]
      | _, _ => none
    | _ => none

def tyn : O → Option String
  | .val .none => some "NoneType"
  | .val (.bool _) => some "bool"
  | .val (.int _) => some "int"
  | .val (.str _) => some "str"
  | .val (.list _) => some "list"
  | .val (.tuple _) => some "tuple"
  | .lst _ => some "list"
  | .tup _ => some "tuple"
  | _ => none
def isKind (t c : String) : Bool := (t == c) || (t == "bool" && c == "int")

/-! ### places, items -/
def O.child : O → Int → Option O
  | .lst os, i => atI os i
  | .tup os, i => atI os i
  | .val (.list ds), i => (atI ds i).map O.val
  | .val (.tuple ds), i => (atI ds i).map O.val
  | .val (.str z), i => if z.length ≤ sizeLine then (atI z.cps.toList i).map fun c => .val (.str ⟨#[c]⟩) else none
  | .scr ns, i => (atI ns i).map fun k => .val (.int k)
  | _, _ => none
/-- f at the place that the steps lead to, owned lists all the way -/
def O.updAt (f : O → Option O) : List Int → O → Option O
  | [], o => f o
  | i :: r, .lst os => match ixN os.length i with
    | some j => match os[j]? with
      | some o => (O.updAt f r o).map fun o' => .lst (os.set j o')
      | none => none
    | none => none
  | _ :: _, _ => none
def O.getAt : List Int → O → Option O
  | [], o => some o
  | i :: r, .lst os => match ixN os.length i with
    | some j => match os[j]? with
      | some o => O.getAt r o
      | none => none
    | none => none
  | _ :: _, _ => none
/-- what is walked -/
def O.its : O → Option (List D)
  | .val (.list ds) => some ds
  | .val (.tuple ds) => some ds
  | .lst os => vals os
  | .tup os => vals os
  | .scr ns => some (ns.map PyData.int)
  | _ => none
def cutO (lo hi : Option Int) : O → Option O
  | .val (.list ds) => some (.lst ((cutL ds lo hi).map O.val))
  | .val (.tuple ds) => some (.val (.tuple (cutL ds lo hi)))
  | .lst os => (vals os).map fun ds => .lst ((cutL ds lo hi).map O.val)
  | .scr ns => some (.lst ((cutL ns lo hi).map fun i => .val (.int i)))
  | _ => none
def revO : O → Option O
  | .val (.list ds) => some (.lst (ds.reverse.map O.val))
  | .val (.tuple ds) => some (.val (.tuple ds.reverse))
  | .lst os => (vals os).map fun ds => .lst (ds.reverse.map O.val)
  | _ => none
/-- range's intL -/
def rngI (a b c : Int) : List D := if c = 1 then (List.range (b - a).toNat).map fun i => .int (a + (i : Nat)) else (List.range (a - b).toNat).map fun i => .int (a + (i : Nat) * (-1))
def small (i : Int) : Bool := decide (-(2 ^ 62) ≤ i) && decide (i < 2 ^ 62)
def rngE : List O → Option (List D)
  | [.val (.int b)] => if small b then some (rngI 0 b 1) else none
  | [.val (.int a), .val (.int b)] => if small a && small b then some (rngI a b 1) else none
  | [.val (.int a), .val (.int b), .val (.int (-1))] => if small a && small b then some (rngI a b (-1)) else none
  | _ => none
def lrngE (a b : Int) : Option O := if small a && small b && decide ((b - a).toNat ≤ 2 ^ 24) then some (.lst ((rngI a b 1).map O.val)) else none
def enumD : Nat → List D → List D
  | _, [] => []
  | k, d :: ds => .tuple [.int k, d] :: enumD (k + 1) ds
def zip2 : List D → List D → List D
  | d :: ds, e :: es => .tuple [d, e] :: zip2 ds es
  | _, _ => []
def zip3 : List D → List D → List D → List D
  | d :: ds, e :: es, f :: fs => .tuple [d, e, f] :: zip3 ds es fs
  | _, _, _ => []
def zipE : List O → Option (List D)
  | [a, b] => match a.its, b.its with
    | some x, some y => some (zip2 x y)
    | _, _ => none
  | [a, b, c] => match a.its, b.its, c.its with
    | some x, some y, some z => some (zip3 x y z)
    | _, _, _ => none
  | _ => none

/-! ### names -/
def ge (r : En) (i : Nat) : Option O := match r[i]? with
  | some (some o) => some o
  | _ => none
def frz (r : En) (i : Nat) : Option (O × En) := match ge r i with
  | some (.fn k) => some (.fn k, r)
  | some (.scr n) => some (.scr n, r)
  | some o => o.toD.map fun d => (.val d, r.set i (some (.val d)))
  | none => none
mutual
/-- a target takes a value -/
def bnd : G → O → En → Option En
  | .nm i, o, r => if i < r.length then some (r.set i (some o)) else none
  | .tp gs, .val (.tuple ds), r => bnds gs (ds.map O.val) r
  | .tp gs, .tup os, r => bnds gs os r
  | _, _, _ => none
def bnds : G → List O → En → Option En
  | .nil, [], r => some r
  | .cons g gs, o :: os, r => match bnd g o r with
    | some r1 => bnds gs os r1
    | none => none
  | _, _, _ => none
end
/-- the slots that a target stores -/
def G.slots : G → List Nat
  | .nm i => [i]
  | .tp gs => gs.slots
  | .cons g gs => g.slots ++ gs.slots
  | _ => []
/-- how many names stand in a target -/
def G.len : G → Nat
  | .cons _ gs => gs.len + 1
  | _ => 0
def wip (r : En) : List Nat → En
  | [] => r
  | v :: vs => (wip r vs).set v none
def plainAt (r : En) (i : Nat) : Bool := match r[i]? with
  | some (some o) => o.isVal
  | some none => true
  | none => true
/-- slots as they were -/
def back (r0 : En) : List Nat → En → En
  | [], r => r
  | v :: vs, r => back r0 vs (r.set v (r0[v]?).join)

/-! ### kinds of expressions -/
def T.isPl : T → Bool
  | .var _ => true
  | .idx a _ => a.isPl
  | _ => false
/-- nothing that is owned changes -/
def T.qt : T → Bool
  | .bin _ a b => a.qt && b.qt
  | .not a => a.qt
  | .neg a => a.qt
  | .and a b => a.qt && b.qt
  | .or a b => a.qt && b.qt
  | .cmp _ a b => a.qt && b.qt
  | .cmp2 _ _ a b c => a.qt && b.qt && c.qt
  | .ife c a b => c.qt && a.qt && b.qt
  | .tup as => as.qt
  | .lst as => as.qt
  | .cons a r => a.qt && r.qt
  | .idx a b => a.qt && b.qt
  | .slc a lo hi => a.qt && lo.qt && hi.qt
  | .rev a => a.qt
  | .lc e _ _ it c _ => e.qt && it.qt && c.qt
  | .call _ as => as.qt
  | .callk _ as ks _ _ => as.qt && ks.qt
  | .ino _ => false
  | .bi _ as => as.qt
  | .isi a _ => a.qt
  | .lrg a => a.qt
  | .lrg2 a b => a.qt && b.qt
  | .app _ _ => false
  | .ext _ _ => false
  | .pop _ => false
  | .popi _ _ => false
  | _ => true
/-- the slots of the arguments that the def changes -/
def inos : T → List (Option Nat)
  | .cons (.ino i) r => some i :: inos r
  | .cons _ r => none :: inos r
  | _ => []
def path : T → Option (Nat × List T)
  | .var i => some (i, [])
  | .idx a b => match path a with
    | some (i, ts) => some (i, ts ++ [b])
    | none => none
  | _ => none

abbrev Cf := Nat → List O → Option (O × List (Option O))

/-- the arguments' owned parts go in -/
def moveIn : List (Option Nat) → List O → En → Option (List O × En)
  | [], [], r => some ([], r)
  | some i :: ns, _ :: os, r => match ge r i with
    | some o => match moveIn ns os (r.set i none) with
      | some (l, r2) => some (o :: l, r2)
      | none => none
    | none => none
  | none :: ns, o :: os, r => match moveIn ns os r with
    | some (l, r2) => some (o :: l, r2)
    | none => none
  | _, _, _ => none
/-- .. and come back -/
def moveOut : List (Option Nat) → List (Option O) → En → Option En
  | [], [], r => some r
  | some i :: ns, some o :: os, r => moveOut ns os (r.set i (some o))
  | none :: ns, none :: os, r => moveOut ns os r
  | _, _, _ => none

def lcGo (f : D → En → Option (Option O × En)) : List D → En → Option (List O × En)
  | [], r => some ([], r)
  | d :: ds, r => match f d r with
    | some (o, r1) => match lcGo f ds r1 with
      | some (os, r2) => some ((match o with
        | some o => o :: os
        | none => os), r2)
      | none => none
    | none => none

def permL {α : Type} (xs : List α) : List Nat → Option (List α)
  | [] => some []
  | i :: is => match xs[i]?, permL xs is with
    | some x, some l => some (x :: l)
    | _, _ => none
def bl? : O → Option Bool
  | .val (.bool b) => some b
  | _ => none
/-- a value's truth -/
def tru : O → Option Bool
  | .val (.bool b) => some b
  | .val .none => some false
  | .val (.int i) => some (i != 0)
  | _ => none
def part : Option (O × En) → Option (Option Int × En)
  | some (.val (.int i), r) => some (some i, r)
  | _ => none
def T.isNil : T → Bool
  | .nil => true
  | _ => false
def prtE (t : T) (r : En) (x : Option (O × En)) : Option (Option Int × En) := if t.isNil then some (none, r) else part x
/-- looked at, nothing changes -/
def evS (gl : List (Str × D)) (r : En) : T → Option O
  | .var i => ge r i
  | .con c => some (.val c)
  | .glo j => (gl[j]?).map fun p => .val p.2
  | .bin op a b => match evS gl r a, evS gl r b with
    | some (.val d), some (.val e) => (match binD op d e with
      | some o => if o.isVal then some o else none
      | none => none)
    | _, _ => none
  | .neg a => match evS gl r a with
    | some (.val (.int i)) => some (.val (.int (-i)))
    | _ => none
  | .idx a b => match evS gl r a, evS gl r b with
    | some x, some (.val (.int k)) => x.child k
    | _, _ => none
  | .bi b (.cons a .nil) => match b with
    | .len => (match evS gl r a with
      | some x => biE .len [x]
      | none => none)
    | _ => none
  | _ => none
def steps (gl : List (Str × D)) (r : En) : List T → Option (List Int)
  | [] => some []
  | t :: ts => match evS gl r t, steps gl r ts with
    | some (.val (.int k)), some ks => some (k :: ks)
    | _, _ => none
/-- the place of an owned list: its name, the steps to it -/
def place (gl : List (Str × D)) (o : T) (r : En) : Option (Nat × List Int) := match path o with
  | some (i, ts) => (steps gl r ts).map fun ks => (i, ks)
  | none => none
def lstF : O → Option O
  | .lst os => some (.lst os)
  | _ => none
def appF (v : O) : O → Option O
  | .lst os => if os.length < sizeLine then some (.lst (os ++ [v])) else none
  | _ => none
def extF (ds : List D) : O → Option O
  | .lst os => if os.length + ds.length ≤ sizeLine then some (.lst (os ++ ds.map O.val)) else none
  | _ => none
/-- an owned list's place -/
def placeL (gl : List (Str × D)) (o : T) (r : En) : Option (Nat × List Int) := match place gl o r with
  | some (i, ks) => match ge r i with
    | some root => match O.updAt lstF ks root with
      | some _ => some (i, ks)
      | none => none
    | none => none
  | none => none
/-- it is rewritten -/
def placeU (f : O → Option O) (i : Nat) (ks : List Int) (r : En) : Option En := match ge r i with
  | some root => (O.updAt f ks root).map fun o => r.set i (some o)
  | none => none
/-- a name's content -/
def slo (r : En) : T → Option O
  | .var i => ge r i
  | _ => none
/-- what is walked -/
def srcO (k : Sk) (x : Option (O × En)) (xs : Option (List O × En)) : Option (List D × En) := match k with
  | .seq => (match x with
    | some (o, r) => o.its.map fun ds => (ds, r)
    | none => none)
  | .enm => (match x with
    | some (o, r) => o.its.map fun ds => (enumD 0 ds, r)
    | none => none)
  | .rng => (match xs with
    | some (os, r) => (rngE os).map fun ds => (ds, r)
    | none => none)
  | .zip => (match xs with
    | some (os, r) => (zipE os).map fun ds => (ds, r)
    | none => none)
section
variable (gl : List (Str × D)) (cf : Cf)
mutual
/-- m: as a value (what is owned at a name is frozen); else looked at -/
def ev (m : Bool) : T → En → Option (O × En)
  | .var i, r => match m with
    | true => frz r i
    | false => (ge r i).map fun o => (o, r)
  | .con c, r => some (.val c, r)
  | .glo j, r => match gl[j]? with
    | some p => some (.val p.2, r)
    | none => none
  | .fn k, r => some (.fn k, r)
  | .bin op a b, r => match ev false a r with
    | some (x, r1) => match ev false b r1 with
      | some (y, r2) => if x.isVal || !a.isPl || b.qt then (match x.sh, y.sh with
        | some d, some e => (binD op d e).map fun o => (o, r2)
        | _, _ => none) else none
      | none => none
    | none => none
  | .not a, r => match ev false a r with
    | some (x, r1) => (bl? x).map fun b => (.val (.bool (!b)), r1)
    | none => none
  | .neg a, r => match ev false a r with
    | some (.val (.int i), r1) => some (.val (.int (-i)), r1)
    | _ => none
  | .and a b, r => match ev false a r with
    | some (.val (.bool true), r1) => (match ev false b r1 with
      | some (.val (.bool c), r2) => some (.val (.bool c), r2)
      | _ => none)
    | some (.val (.bool false), r1) => some (.val (.bool false), r1)
    | _ => none
  | .or a b, r => match ev false a r with
    | some (.val (.bool false), r1) => (match ev false b r1 with
      | some (.val (.bool c), r2) => some (.val (.bool c), r2)
      | _ => none)
    | some (.val (.bool true), r1) => some (.val (.bool true), r1)
    | _ => none
  | .cmp op a b, r => match ev false a r with
    | some (x, r1) => match ev false b r1 with
      | some (y, r2) => if x.isVal || !a.isPl || b.qt then (match x.sh, y.sh with
        | some d, some e => (cmpD op d e).map fun c => (.val (.bool c), r2)
        | _, _ => none) else none
      | none => none
    | none => none
  | .cmp2 p q a b c, r => match ev false a r with
    | some (.val x, r1) => match ev false b r1 with
      | some (.val y, r2) => match cmpD p x y with
        | some true => match ev false c r2 with
          | some (.val z, r3) => (cmpD q y z).map fun k => (.val (.bool k), r3)
          | _ => none
        | some false => some (.val (.bool false), r2)
        | none => none
      | _ => none
    | _ => none
  | .ife c a b, r => match ev false c r with
    | some (.val (.bool true), r1) => ev true a r1
    | some (.val (.bool false), r1) => ev true b r1
    | _ => none
  | .tup as, r => match (if (inos as).all (·.isNone) then evs true as r else none) with
    | some (os, r1) => (match vals os with
      | some ds => if ds.length ≤ sizeLine then some (.val (.tuple ds), r1) else none
      | none => if os.length ≤ sizeLine then some (.tup os, r1) else none)
    | none => none
  | .lst as, r => match (if (inos as).all (·.isNone) then evs true as r else none) with
    | some (os, r1) => if os.length ≤ sizeLine then some (.lst (if m then os else os.map fz), r1) else none
    | none => none
  | .idx a b, r => match ev false a r with
    | some (x, r1) => (match (if !m && a.isPl then evS gl r1 b else none) with
      | some (.val (.int k)) => (x.child k).map fun o => (o, r1)
      | _ => (match ev false b r1 with
        | some (.val (.int k), r2) => if x.isVal || !a.isPl || b.qt then (match x.child k with
          | some o => if o.isVal then some (o, r2) else none
          | none => none) else (match slo r2 a with
            | some y => (match y.child k with
              | some o => if o.isVal then some (o, r2) else none
              | none => none)
            | none => none)
        | _ => none))
    | none => none
  | .slc a lo hi, r => match ev false a r with
    | some (x, r1) => (match prtE lo r1 (ev false lo r1) with
      | some (l, r2) => (match prtE hi r2 (ev false hi r2) with
        | some (h, r3) => if x.isVal || !a.isPl || (lo.qt && hi.qt) then (cutO l h x).map fun o => (o, r3) else none
        | none => none)
      | none => none)
    | none => none
  | .rev a, r => match ev false a r with
    | some (x, r1) => (revO x).map fun o => (o, r1)
    | none => none
  | .lc e g k it c own, r => match srcO k (ev (!(e.qt && c.qt)) it r) (if (inos it).all (·.isNone) then evs (!(e.qt && c.qt)) it r else none) with
    | some (ds, r1) => if own.all (fun p => plainAt r1 p.2) then (match lcGo (fun d r => match bnd g (.val d) r with
          | some r2 => match ev false c r2 with
            | some (.val (.bool true), r3) => match ev true e r3 with
              | some (o, r4) => some (some o, wip r4 (own.map (·.2)))
              | none => none
            | some (.val (.bool false), r3) => some (none, wip r3 (own.map (·.2)))
            | _ => none
          | none => none) ds (wip r1 (own.map (·.2))) with
        | some (os, r2) => if os.length ≤ sizeLine then some (.lst (if m then os else os.map fz), back r1 (own.map (·.2)) r2) else none
        | none => none) else none
    | none => none
  | .call k as, r => match evs true as r with
    | some (os, r1) => match moveIn (inos as) os r1 with
      | some (l, r2) => match cf k l with
        | some (o, outs) => (moveOut (inos as) outs r2).map fun r3 => (o, r3)
        | none => none
      | none => none
    | none => none
  | .callk k as ks _ pm, r => match evs true as r with
    | some (os, r1) => match evs true ks r1 with
      | some (ps, r2) => match permL (os ++ ps) pm with
        | some l => match (if (os ++ ps).all O.isVal then cf k l else none) with
          | some (o, outs) => if outs.all (·.isNone) && (inos as).all (·.isNone) && (inos ks).all (·.isNone) then some (o, r2) else none
          | none => none
        | none => none
      | none => none
    | none => none
  | .bi b as, r => match evs false as r with
    | some (os, r1) => (biE b os).map fun o => (o, r1)
    | none => none
  | .isi a cs, r => match ev false a r with
    | some (x, r1) => (tyn x).map fun t => (.val (.bool (cs.any (isKind t))), r1)
    | none => none
  | .lrg a, r => match ev false a r with
    | some (.val (.int b), r1) => (lrngE 0 b).map fun o => (o, r1)
    | _ => none
  | .lrg2 a b, r => match ev false a r with
    | some (.val (.int x), r1) => (match ev false b r1 with
      | some (.val (.int y), r2) => (lrngE x y).map fun o => (o, r2)
      | _ => none)
    | _ => none
  | .app o a, r => match placeL gl o r with
    | some (i, ks) => (match (if ks.isEmpty || a.qt then ev true a r else none) with
      | some (v, r1) => (placeU (appF v) i ks r1).map fun r2 => (.val .none, r2)
      | none => none)
    | none => none
  | .ext o a, r => match placeL gl o r with
    | some (i, ks) => (match (if ks.isEmpty || a.qt then ev false a r else none) with
      | some (x, r1) => (match x.sh with
        | some (.list ds) => (placeU (extF ds) i ks r1).map fun r2 => (.val .none, r2)
        | _ => none)
      | none => none)
    | none => none
  | .pop (.var i), r => match ge r i with
    | some (.lst os) => match os.getLast? with
      | some o => some (o, r.set i (some (.lst os.dropLast)))
      | none => none
    | _ => none
  | .popi (.var i) a, r => match (match ge r i with
      | some (.lst _) => ev false a r
      | _ => none) with
    | some (.val (.int k), r1) => match ge r1 i with
      | some (.lst os) => match (if small k then ixN os.length k else none) with
        | some j => match os[j]? with
          | some o => some (o, r1.set i (some (.lst (os.eraseIdx j))))
          | none => none
        | none => none
      | _ => none
    | _ => none
  | .nil, r => some (.tup [], r)
  | _, _ => none
def evs (m : Bool) : T → En → Option (List O × En)
  | .nil, r => some ([], r)
  | .cons (.ino i) s, r => match m with
    | true => (match ge r i with
      | some _ => (match evs true s r with
        | some (os, r2) => some (.fn 0 :: os, r2)
        | none => none)
      | none => none)
    | false => none
  | .cons a s, r => match ev m a r with
    | some (o, r1) => match evs m s r1 with
      | some (os, r2) => if o.isVal || m || !a.isPl || s.qt then some (o :: os, r2) else none
      | none => none
    | none => none
  | _, _ => none
end
end
theorem ev_con0 {gl cf m i r} : Mi.ev gl cf m (.con i) r = some (.val i, r) := by simp only [Mi.ev]
theorem evs_con0 {gl cf m r} : Mi.evs gl cf m .nil r = some ([], r) := by simp only [Mi.evs]
end Mi

end
section
/-! Mi2: the evaluator of statements and defs. -/
namespace Mi
open PySem L2

inductive Fl where
  | nx
  | rt (o : O)
  | bk
  | ct

def LF : Nat := 2 ^ 40

def forGo (g : G) (f : En → Option (Fl × En)) : List D → En → Option (Fl × En)
  | [], r => some (.nx, r)
  | d :: ds, r => match bnd g (.val d) r with
    | some r1 => match f r1 with
      | some (.nx, r2) => forGo g f ds r2
      | some (.ct, r2) => forGo g f ds r2
      | some (.bk, r2) => some (.nx, r2)
      | some (.rt o, r2) => some (.rt o, r2)
      | none => none
    | none => none
def whlGo (c : En → Option (Bool × En)) (f : En → Option (Fl × En)) : Nat → En → Option (Fl × En)
  | 0, _ => none
  | n + 1, r => match c r with
    | some (false, r1) => some (.nx, r1)
    | some (true, r1) => match f r1 with
      | some (.nx, r2) => whlGo c f n r2
      | some (.ct, r2) => whlGo c f n r2
      | some (.bk, r2) => some (.nx, r2)
      | some (.rt o, r2) => some (.rt o, r2)
      | none => none
    | none => none

section
variable (gl : List (Str × D)) (cf : Cf)
def setIx (k : Int) (v : O) : O → Option O
  | .lst os => (ixN os.length k).map fun j => .lst (os.set j v)
  | _ => none
/-- o[k] = v -/
def setAt (r : En) (p : Nat × List Int) (k : Int) (v : O) : Option En := match ge r p.1 with
  | some o => (O.updAt (setIx k v) p.2 o).map fun o' => r.set p.1 (some o')
  | none => none
def getAt (r : En) (p : Nat × List Int) (k : Int) : Option O := match ge r p.1 with
  | some o => match O.getAt p.2 o with
    | some (.lst os) => atI os k
    | _ => none
  | none => none
mutual
/-- a target of an assignment takes a value -/
def sto : G → O → En → Option En
  | .nm i, o, r => if i < r.length then some (r.set i (some o)) else none
  | .tp gs, .val (.tuple ds), r => stos gs (ds.map O.val) r
  | .tp gs, .tup os, r => stos gs os r
  | .sb o i, v, r => match placeL gl o r with
    | some p => (match evS gl r i with
      | some (.val (.int k)) => setAt r p k v
      | _ => none)
    | none => none
  | _, _, _ => none
def stos : G → List O → En → Option En
  | .nil, [], r => some r
  | .cons g gs, o :: os, r => match sto g o r with
    | some r1 => stos gs os r1
    | none => none
  | _, _, _ => none
end
mutual
/-- what is returned: a name's own list goes out -/
def mv : T → En → Option (O × En)
  | .var i, r => match ge r i with
    | some o => some (o, if o.isVal then r else r.set i none)
    | none => none
  | .tup as, r => match mvs as r with
    | some (os, r1) => (match vals os with
      | some ds => if ds.length ≤ sizeLine then some (.val (.tuple ds), r1) else none
      | none => if os.length ≤ sizeLine then some (.tup os, r1) else none)
    | none => none
  | t, r => ev gl cf true t r
def mvs : T → En → Option (List O × En)
  | .nil, r => some ([], r)
  | .cons a s, r => match mv a r with
    | some (o, r1) => match mvs s r1 with
      | some (os, r2) => some (o :: os, r2)
      | none => none
    | none => none
  | _, _ => none
end
def cnd (c : T) (r : En) : Option (Bool × En) := match ev gl cf false c r with
  | some (x, r1) => (bl? x).map fun b => (b, r1)
  | none => none
def src (k : Sk) (it : T) (r : En) : Option (List D × En) := srcO k (ev gl cf true it r) (if (inos it).all (·.isNone) then evs gl cf true it r else none)
def ex : S → En → Option (Fl × En)
  | .set g e, r => match ev gl cf true e r with
    | some (o, r1) => (sto gl g o r1).map fun r2 => (.nx, r2)
    | none => none
  | .aug i op e, r => match ge r i with
    | some (.val d) => match ev gl cf false e r with
      | some (.val y, r1) => match augD op d y with
        | some o => if o.isVal then some (.nx, r1.set i (some o)) else none
        | none => none
      | _ => none
    | _ => none
  | .augs o i op e, r => match placeL gl o r with
    | some p => (match evS gl r i with
      | some (.val (.int k)) => (match (if e.qt then getAt r p k else none) with
        | some (.val d) => (match ev gl cf false e r with
          | some (.val y, r1) => (match augD op d y with
            | some v => if v.isVal then (setAt r1 p k v).map fun r2 => (.nx, r2) else none
            | none => none)
          | _ => none)
        | _ => none)
      | _ => none)
    | none => none
  | .ex e, r => (ev gl cf true e r).map fun p => (.nx, p.2)
  | .ret e, r => (mv gl cf e r).map fun p => (.rt p.1, p.2)
  | .ite c a b, r => match cnd gl cf c r with
    | some (true, r1) => ex a r1
    | some (false, r1) => ex b r1
    | none => none
  | .whl c b, r => whlGo (cnd gl cf c) (ex b) LF r
  | .for_ g k it b, r => match src gl cf k it r with
    | some (ds, r1) => forGo g (ex b) ds r1
    | none => none
  | .pass, r => some (.nx, r)
  | .brk, r => some (.bk, r)
  | .cont, r => some (.ct, r)
  | .sq a b, r => match ex a r with
    | some (.nx, r1) => ex b r1
    | x => x
  | .nop, r => some (.nx, r)
  | .dead, _ => none
end

/-- a def: parameters, other names, which parameters it changes, its body -/
structure Df where
  np : Nat
  nl : Nat
  io : List Bool
  body : S
/-- the changed parameters' contents at the end -/
def outsE : List Bool → En → Option (List (Option O))
  | [], _ => some []
  | true :: bs, some o :: r => (outsE bs r).map (some o :: ·)
  | false :: bs, _ :: r => (outsE bs r).map (none :: ·)
  | _, _ => none
/-- the slots that a statement stores -/
def S.st : S → List Nat
  | .set g _ => g.slots
  | .aug i _ _ => [i]
  | .ite _ a b => a.st ++ b.st
  | .whl _ b => b.st
  | .for_ g _ _ b => g.slots ++ b.st
  | .sq a b => a.st ++ b.st
  | _ => []
/-- no changed parameter's name is stored -/
def ioOk (io : List Bool) (st : List Nat) : Bool := st.all fun j => !(io.getD j false)
/-- a call, n defs deep -/
def cl (gl : List (Str × D)) (P : List Df) : Nat → Cf
  | 0, _, _ => none
  | n + 1, k, os => match P[k]? with
    | some d => if os.length = d.np ∧ d.io.length = d.np ∧ ioOk d.io d.body.st = true then (match ex gl (cl gl P n) d.body ((fzL d.io os).map some ++ List.replicate d.nl none) with
      | some (.rt o, r) => (outsE d.io r).map fun l => (o, l)
      | some (.nx, r) => (outsE d.io r).map fun l => (.val .none, l)
      | _ => none) else none
    | none => none
end Mi

end
section
set_option maxHeartbeats 4000000
/-! Pl0: the evaluator's rows as steps that simp walks. -/
namespace Pl
open PySem L2 Mi
abbrev D := PyData
/-- what comes behind; simp does not look into it ahead of time (an instance) -/
class Ko (α β : Type) where
  f : α → Option β
class Kv (β : Type) where
  v : β
/-- one step behind another one -/
def kb {α β : Type} (x : Option α) [k : Ko α β] : Option β := match x with
  | some a => k.f a
  | none => none
@[simp] theorem kb_some {α β : Type} {a : α} {k : α → Option β} : kb (some a) (k := ⟨k⟩) = k a := (rfl)
@[simp] theorem kb_none {α β : Type} {k : Ko α β} : kb none (k := k) = none := (rfl)
/-- two ways -/
def ki {β : Type} (b : Bool) [x : Kv β] [y : Kv β] : β := match b with
  | true => x.v
  | false => y.v
@[simp] theorem ki_true {β : Type} {x : β} {y : Kv β} : ki true (x := ⟨x⟩) (y := y) = x := (rfl)
@[simp] theorem ki_false {β : Type} {x : Kv β} {y : β} : ki false (x := x) (y := ⟨y⟩) = y := (rfl)
/-- a condition that must hold -/
def kg {β : Type} (b : Bool) [x : Kv (Option β)] : Option β := match b with
  | true => x.v
  | false => none
@[simp] theorem kg_true {β : Type} {x : Option β} : kg true (x := ⟨x⟩) = x := (rfl)
theorem kg_false {β : Type} {x : Kv (Option β)} : kg false (x := x) = none := (rfl)
def vl? : O → Option D
  | .val d => some d
  | _ => none
def it? : O → Option Int
  | .val (.int i) => some i
  | _ => none
@[simp] theorem vl_val {d : D} : vl? (.val d) = some d := (rfl)
@[simp] theorem it_int {i : Int} : it? (.val (.int i)) = some i := (rfl)
@[simp] theorem bl_bool {b : Bool} : bl? (.val (.bool b)) = some b := (rfl)
@[simp] theorem sh_val {d : D} : O.sh (.val d) = some d := (rfl)
@[simp] theorem sh_lst {os : List O} : O.sh (.lst os) = (vals os).map PyData.list := (rfl)
@[simp] theorem sh_tup {os : List O} : O.sh (.tup os) = (vals os).map PyData.tuple := (rfl)
@[simp] theorem isVal_val {d : D} : O.isVal (.val d) = true := (rfl)
@[simp] theorem isVal_lst {os : List O} : O.isVal (.lst os) = false := (rfl)
@[simp] theorem isVal_tup {os : List O} : O.isVal (.tup os) = false := (rfl)
@[simp] theorem isVal_scr {os : List Int} : O.isVal (.scr os) = true := (rfl)
@[simp] theorem isVal_fn {k : Nat} : O.isVal (.fn k) = true := (rfl)
@[simp] theorem vals_nil : vals [] = some [] := (rfl)
@[simp] theorem vals_cons {d : D} {os : List O} : vals (.val d :: os) = (vals os).map (d :: ·) := (rfl)
@[simp] theorem vals_l {x : List O} {os : List O} : vals (.lst x :: os) = none := (rfl)
@[simp] theorem vals_t {x : List O} {os : List O} : vals (.tup x :: os) = none := (rfl)
@[simp] theorem vals_f {x : Nat} {os : List O} : vals (.fn x :: os) = none := (rfl)
@[simp] theorem vals_map : ∀ ds : List D, vals (ds.map O.val) = some ds
  | [] => rfl
  | d :: ds => by simp [vals_map ds]
@[simp] theorem vals_app : ∀ (xs ys : List O), vals (xs ++ ys) = match vals xs, vals ys with
    | some a, some b => some (a ++ b)
    | _, _ => none
  | [], ys => by cases h : vals ys <;> simp [h]
  | .val d :: xs, ys => by
    simp only [List.cons_append, vals_cons, vals_app xs ys]
    cases vals xs <;> cases vals ys <;> rfl
  | .lst _ :: xs, ys => by simp [vals]
  | .tup _ :: xs, ys => by simp [vals]
  | .fn _ :: xs, ys => by simp [vals]
  | .scr _ :: xs, ys => by simp [vals]
theorem vals_len : ∀ {os : List O} {ds : List D}, vals os = some ds → ds.length = os.length
  | [], ds, h => by cases h; rfl
  | .val d :: os, ds, h => by
    simp only [vals, Option.map_eq_some_iff] at h
    obtain ⟨l, e, rfl⟩ := h
    simp [vals_len e]
  | .lst _ :: _, _, h => by cases h
  | .tup _ :: _, _, h => by cases h
  | .fn _ :: _, _, h => by cases h
  | .scr _ :: _, _, h => by cases h
@[simp] theorem isNil_nil : T.isNil .nil = true := (rfl)
theorem ge_def {r : En} {i : Nat} {o : O} (h : r[i]? = some (some o)) : ge r i = some o := by unfold ge; rw [h]
@[simp] theorem ge_zero {o : O} {r : En} : ge (some o :: r) 0 = some o := (rfl)
@[simp] theorem ge_succ {x : Option O} {r : En} {i : Nat} : ge (x :: r) (i + 1) = ge r i := (rfl)
theorem frz_val {r : En} {i : Nat} {d : D} (h : ge r i = some (.val d)) : frz r i = some (.val d, r.set i (some (.val d))) := by
  unfold frz; rw [h]; rfl
@[simp] def frzK (r : En) (i : Nat) : O → Option (O × En)
  | .fn k => some (.fn k, r)
  | .scr n => some (.scr n, r)
  | o => kb o.toD (k := ⟨fun d => some (.val d, r.set i (some (.val d)))⟩)
@[simp] theorem frz_eq {r : En} {i : Nat} : frz r i = kb (ge r i) (k := ⟨frzK r i⟩) := by
  unfold frz frzK kb
  cases ge r i with
  | none => rfl
  | some o => cases o <;> simp <;> split <;> simp_all
section
variable (gl : List (Str × D)) (cf : Cf) (m : Bool) (r : En)
@[simp] theorem ev_var_t {i : Nat} : ev gl cf true (.var i) r = frz r i := by simp only [ev]
@[simp] theorem ev_var_f {i : Nat} : ev gl cf false (.var i) r = kb (ge r i) (k := ⟨fun o => some (o, r)⟩) := by simp only [ev]; cases ge r i <;> rfl
@[simp] theorem ev_con {c : D} : ev gl cf m (.con c) r = some (.val c, r) := by simp only [ev]
@[simp] theorem ev_glo {j : Nat} : ev gl cf m (.glo j) r = kb gl[j]? (k := ⟨fun p => some (.val p.2, r)⟩) := by simp only [ev]; cases gl[j]? <;> rfl
@[simp] theorem ev_fn {k : Nat} : ev gl cf m (.fn k) r = some (.fn k, r) := by simp only [ev]
@[simp] theorem ev_bin {op : Bop} {a b : T} : ev gl cf m (.bin op a b) r = kb (ev gl cf false a r) (k := ⟨fun p => kb (ev gl cf false b p.2) (k := ⟨fun q => kg (p.1.isVal || !a.isPl || b.qt) (x := ⟨kb p.1.sh (k := ⟨fun d => kb q.1.sh (k := ⟨fun e => kb (binD op d e) (k := ⟨fun o => some (o, q.2)⟩)⟩)⟩)⟩)⟩)⟩) := by
  simp only [ev]
  cases ev gl cf false a r with
  | none => rfl
  | some p =>
    obtain ⟨x, r1⟩ := p
    simp only [kb_some]
    cases ev gl cf false b r1 with
    | none => rfl
    | some q =>
      obtain ⟨y, r2⟩ := q
      simp only [kb_some]
      cases (x.isVal || !a.isPl || b.qt)
      · rfl
      · simp only [kg_true, kg_false, if_true]
        cases x.sh <;> cases y.sh <;> rfl
@[simp] theorem ev_not {a : T} : ev gl cf m (.not a) r = kb (ev gl cf false a r) (k := ⟨fun p => kb (bl? p.1) (k := ⟨fun b => some (.val (.bool (!b)), p.2)⟩)⟩) := by
  simp only [ev]
  cases ev gl cf false a r with
  | none => rfl
  | some p =>
    obtain ⟨x, r1⟩ := p
    simp only [kb_some]
    cases bl? x <;> rfl
@[simp] theorem ev_neg {a : T} : ev gl cf m (.neg a) r = kb (ev gl cf false a r) (k := ⟨fun p => kb (it? p.1) (k := ⟨fun i => some (.val (.int (-i)), p.2)⟩)⟩) := by
  simp only [ev]
  cases ev gl cf false a r with
  | none => rfl
  | some p =>
    obtain ⟨x, r1⟩ := p
    rcases x with ⟨_ | _ | _ | _ | _ | _ | _⟩ | _ | _ | _ | _ <;> rfl
@[simp] theorem ev_and {a b : T} : ev gl cf m (.and a b) r = kb (ev gl cf false a r) (k := ⟨fun p => kb (bl? p.1) (k := ⟨fun c => ki c (x := ⟨kb (ev gl cf false b p.2) (k := ⟨fun q => kb (bl? q.1) (k := ⟨fun d => some (.val (.bool d), q.2)⟩)⟩)⟩) (y := ⟨some (.val (.bool false), p.2)⟩)⟩)⟩) := by
  simp only [ev]
  cases ev gl cf false a r with
  | none => rfl
  | some p =>
    obtain ⟨x, r1⟩ := p
    rcases x with ⟨_ | c | _ | _ | _ | _ | _⟩ | _ | _ | _ | _ <;> try rfl
    cases c
    · rfl
    · simp only [kb_some, bl_bool, ki_true]
      cases ev gl cf false b r1 with
      | none => rfl
      | some q =>
        obtain ⟨y, r2⟩ := q
        rcases y with ⟨_ | c | _ | _ | _ | _ | _⟩ | _ | _ | _ | _ <;> rfl
@[simp] theorem ev_or {a b : T} : ev gl cf m (.or a b) r = kb (ev gl cf false a r) (k := ⟨fun p => kb (bl? p.1) (k := ⟨fun c => ki c (x := ⟨some (.val (.bool true), p.2)⟩) (y := ⟨kb (ev gl cf false b p.2) (k := ⟨fun q => kb (bl? q.1) (k := ⟨fun d => some (.val (.bool d), q.2)⟩)⟩)⟩)⟩)⟩) := by
  simp only [ev]
  cases ev gl cf false a r with
  | none => rfl
  | some p =>
    obtain ⟨x, r1⟩ := p
    rcases x with ⟨_ | c | _ | _ | _ | _ | _⟩ | _ | _ | _ | _ <;> try rfl
    cases c
    · simp only [kb_some, bl_bool, ki_false]
      cases ev gl cf false b r1 with
      | none => rfl
      | some q =>
        obtain ⟨y, r2⟩ := q
        rcases y with ⟨_ | c | _ | _ | _ | _ | _⟩ | _ | _ | _ | _ <;> rfl
    · rfl
@[simp] theorem ev_cmp {op : Cop} {a b : T} : ev gl cf m (.cmp op a b) r = kb (ev gl cf false a r) (k := ⟨fun p => kb (ev gl cf false b p.2) (k := ⟨fun q => kg (p.1.isVal || !a.isPl || b.qt) (x := ⟨kb p.1.sh (k := ⟨fun d => kb q.1.sh (k := ⟨fun e => kb (cmpD op d e) (k := ⟨fun o => some (.val (.bool o), q.2)⟩)⟩)⟩)⟩)⟩)⟩) := by
  simp only [ev]
  cases ev gl cf false a r with
  | none => rfl
  | some p =>
    obtain ⟨x, r1⟩ := p
    simp only [kb_some]
    cases ev gl cf false b r1 with
    | none => rfl
    | some q =>
      obtain ⟨y, r2⟩ := q
      simp only [kb_some]
      cases (x.isVal || !a.isPl || b.qt)
      · rfl
      · simp only [kg_true, kg_false, if_true]
        cases x.sh <;> cases y.sh <;> rfl
@[simp] theorem ev_cmp2 {u v : Cop} {a b c : T} : ev gl cf m (.cmp2 u v a b c) r = kb (ev gl cf false a r) (k := ⟨fun p => kb (vl? p.1) (k := ⟨fun x => kb (ev gl cf false b p.2) (k := ⟨fun q => kb (vl? q.1) (k := ⟨fun y => kb (cmpD u x y) (k := ⟨fun t => ki t (x := ⟨kb (ev gl cf false c q.2) (k := ⟨fun s => kb (vl? s.1) (k := ⟨fun z => kb (cmpD v y z) (k := ⟨fun k => some (.val (.bool k), s.2)⟩)⟩)⟩)⟩) (y := ⟨some (.val (.bool false), q.2)⟩)⟩)⟩)⟩)⟩)⟩) := by
  simp only [ev]
  cases ev gl cf false a r with
  | none => rfl
  | some p =>
    obtain ⟨x, r1⟩ := p
    cases x <;> try rfl
    rename_i x
    simp only [kb_some, vl_val]
    cases ev gl cf false b r1 with
    | none => rfl
    | some q =>
      obtain ⟨y, r2⟩ := q
      cases y <;> try rfl
      rename_i y
      simp only [kb_some, vl_val]
      cases cmpD u x y with
      | none => rfl
      | some t =>
        cases t
        · rfl
        · simp only [kb_some, ki_true]
          cases ev gl cf false c r2 with
          | none => rfl
          | some s =>
            obtain ⟨z, r3⟩ := s
            cases z <;> try rfl
@[simp] theorem ev_ife {c a b : T} : ev gl cf m (.ife c a b) r = kb (ev gl cf false c r) (k := ⟨fun p => kb (bl? p.1) (k := ⟨fun t => ki t (x := ⟨ev gl cf true a p.2⟩) (y := ⟨ev gl cf true b p.2⟩)⟩)⟩) := by
  simp only [ev]
  cases ev gl cf false c r with
  | none => rfl
  | some p =>
    obtain ⟨x, r1⟩ := p
    rcases x with ⟨_ | c | _ | _ | _ | _ | _⟩ | _ | _ | _ | _ <;> try rfl
    cases c <;> rfl
@[simp] def tupK (os : List O) (r1 : En) : Option (O × En) := kg (decide (os.length ≤ sizeLine)) (x := ⟨match vals os with
  | some ds => some (.val (.tuple ds), r1)
  | none => some (.tup os, r1)⟩)
@[simp] theorem ev_tup {as : T} : ev gl cf m (.tup as) r = kg ((inos as).all (·.isNone)) (x := ⟨kb (evs gl cf true as r) (k := ⟨fun p => tupK p.1 p.2⟩)⟩) := by
  simp only [ev]
  cases (inos as).all (·.isNone)
  · rfl
  · simp only [if_true, kg_true, kg_false]
    cases evs gl cf true as r with
    | none => rfl
    | some p =>
      obtain ⟨os, r1⟩ := p
      simp only [kb_some, tupK]
      cases hv : vals os with
      | none => by_cases h : os.length ≤ sizeLine <;> simp [h, hv, kg_false]
      | some ds =>
        have : ds.length = os.length := by
          exact vals_len hv
        by_cases h : os.length ≤ sizeLine <;> simp [h, hv, kg_false, this]
@[simp] theorem ev_lst {as : T} : ev gl cf m (.lst as) r = kg ((inos as).all (·.isNone)) (x := ⟨kb (evs gl cf true as r) (k := ⟨fun p => kg (decide (p.1.length ≤ sizeLine)) (x := ⟨some (.lst (if m then p.1 else p.1.map fz), p.2)⟩)⟩)⟩) := by
  simp only [ev]
  cases (inos as).all (·.isNone)
  · rfl
  · simp only [if_true, kg_true, kg_false]
    cases evs gl cf true as r with
    | none => rfl
    | some p =>
      obtain ⟨os, r1⟩ := p
      simp only [kb_some]
      by_cases h : os.length ≤ sizeLine <;> simp [h, kg_false]
/-- an int that is there, or another way -/
class Kf (β : Type) where
  f : Int → β
def kd {β : Type} (x : Option O) [k : Kf β] [e : Kv β] : β := match x with
  | some (.val (.int i)) => k.f i
  | _ => e.v
@[simp] theorem kd_none {β : Type} {k : Kf β} {e : β} : kd none (k := k) (e := ⟨e⟩) = e := (rfl)
@[simp] theorem kd_int {β : Type} {k : Int → β} {e : Kv β} {i : Int} : kd (some (.val (.int i))) (k := ⟨k⟩) (e := e) = k i := (rfl)
def ixK (c : Bool) (x : O) (y : Option O) (k : Int) (r2 : En) : Option (O × En) := match c with
  | true => kb (x.child k) (k := ⟨fun o => kg o.isVal (x := ⟨some (o, r2)⟩)⟩)
  | false => kb y (k := ⟨fun y => kb (y.child k) (k := ⟨fun o => kg o.isVal (x := ⟨some (o, r2)⟩)⟩)⟩)
@[simp] theorem ixK_t {x : O} {y : Option O} {k : Int} {r2 : En} : ixK true x y k r2 = kb (x.child k) (k := ⟨fun o => kg o.isVal (x := ⟨some (o, r2)⟩)⟩) := (rfl)
@[simp] theorem ixK_f {x : O} {y : Option O} {k : Int} {r2 : En} : ixK false x y k r2 = kb y (k := ⟨fun y => kb (y.child k) (k := ⟨fun o => kg o.isVal (x := ⟨some (o, r2)⟩)⟩)⟩) := (rfl)
@[simp] theorem slo_var {i : Nat} : slo r (.var i) = ge r i := (rfl)
@[simp] theorem ev_idx {a b : T} : ev gl cf m (.idx a b) r = kb (ev gl cf false a r) (k := ⟨fun p => kd (if !m && a.isPl then evS gl p.2 b else none) (k := ⟨fun k => kb (p.1.child k) (k := ⟨fun o => some (o, p.2)⟩)⟩) (e := ⟨kb (ev gl cf false b p.2) (k := ⟨fun q => kb (it? q.1) (k := ⟨fun k => ixK (p.1.isVal || !a.isPl || b.qt) p.1 (slo q.2 a) k q.2⟩)⟩)⟩)⟩) := by
  simp only [ev]
  cases ev gl cf false a r with
  | none => rfl
  | some p =>
    obtain ⟨x, r1⟩ := p
    simp only [kb_some]
    have tl : (match ev gl cf false b r1 with
        | some (.val (.int k), r2) => if x.isVal || !a.isPl || b.qt then (match x.child k with
          | some o => if o.isVal then some (o, r2) else none
          | none => none) else (match slo r2 a with
            | some y => (match y.child k with
              | some o => if o.isVal then some (o, r2) else none
              | none => none)
            | none => none)
        | _ => none) = kb (ev gl cf false b r1) (k := ⟨fun q => kb (it? q.1) (k := ⟨fun k => ixK (x.isVal || !a.isPl || b.qt) x (slo q.2 a) k q.2⟩)⟩) := by
      cases ev gl cf false b r1 with
      | none => rfl
      | some q =>
        obtain ⟨y, r2⟩ := q
        rcases y with ⟨_ | _ | k | _ | _ | _ | _⟩ | _ | _ | _ | _ <;> try rfl
        simp only [kb_some, it_int]
        cases (x.isVal || !a.isPl || b.qt)
        · simp only [ixK_f]
          cases slo r2 a with
          | none => rfl
          | some z =>
            simp only [kb_some]
            cases z.child k with
            | none => rfl
            | some o => cases h : o.isVal <;> simp [h, kg_true, kg_false]
        · simp only [if_true, ixK_t]
          cases x.child k with
          | none => rfl
          | some o => cases h : o.isVal <;> simp [h, kg_true, kg_false]
    generalize (if (!m && a.isPl) = true then evS gl r1 b else none) = z
    rw [← tl]
    rcases z with _ | ⟨_ | _ | k | _ | _ | _ | _⟩ | _ | _ | _ | _ <;> try rfl
@[simp] theorem ev_slc {a lo hi : T} : ev gl cf m (.slc a lo hi) r = kb (ev gl cf false a r) (k := ⟨fun p => kb (prtE lo p.2 (ev gl cf false lo p.2)) (k := ⟨fun l => kb (prtE hi l.2 (ev gl cf false hi l.2)) (k := ⟨fun h => kg (p.1.isVal || !a.isPl || (lo.qt && hi.qt)) (x := ⟨kb (cutO l.1 h.1 p.1) (k := ⟨fun o => some (o, h.2)⟩)⟩)⟩)⟩)⟩) := by
  simp only [ev]
  cases ev gl cf false a r with
  | none => rfl
  | some p =>
    obtain ⟨x, r1⟩ := p
    simp only [kb_some]
    cases prtE lo r1 (ev gl cf false lo r1) with
    | none => rfl
    | some l =>
      obtain ⟨l, r2⟩ := l
      simp only [kb_some]
      cases prtE hi r2 (ev gl cf false hi r2) with
      | none => rfl
      | some h =>
        obtain ⟨h, r3⟩ := h
        simp only [kb_some]
        cases (x.isVal || !a.isPl || (lo.qt && hi.qt))
        · rfl
        · simp only [if_true, kg_true, kg_false]
          cases cutO l h x <;> rfl
@[simp] theorem ev_rev {a : T} : ev gl cf m (.rev a) r = kb (ev gl cf false a r) (k := ⟨fun p => kb (revO p.1) (k := ⟨fun o => some (o, p.2)⟩)⟩) := by
  simp only [ev]
  cases ev gl cf false a r with
  | none => rfl
  | some p =>
    obtain ⟨x, r1⟩ := p
    simp only [kb_some]
    cases revO x <;> rfl
/-- one turn of a comprehension -/
def lcF (e : T) (g : G) (c : T) (sl : List Nat) (d : D) (r : En) : Option (Option O × En) := kb (bnd g (.val d) r) (k := ⟨fun r2 => kb (ev gl cf false c r2) (k := ⟨fun p => kb (bl? p.1) (k := ⟨fun t => ki t (x := ⟨kb (ev gl cf true e p.2) (k := ⟨fun q => some (some q.1, wip q.2 sl)⟩)⟩) (y := ⟨some (none, wip p.2 sl)⟩)⟩)⟩)⟩)
@[simp] theorem ev_lc {e : T} {g : G} {k : Sk} {it c : T} {own : List (Str × Nat)} : ev gl cf m (.lc e g k it c own) r =
    kb (srcO k (ev gl cf (!(e.qt && c.qt)) it r) (if (inos it).all (·.isNone) then evs gl cf (!(e.qt && c.qt)) it r else none)) (k := ⟨fun p => kg (own.all (fun q => plainAt p.2 q.2)) (x := ⟨kb (lcGo (lcF gl cf e g c (own.map (·.2))) p.1 (wip p.2 (own.map (·.2)))) (k := ⟨fun q => kg (decide (q.1.length ≤ sizeLine)) (x := ⟨some (.lst (if m then q.1 else q.1.map fz), back p.2 (own.map (·.2)) q.2)⟩)⟩)⟩)⟩) := by
  simp only [ev]
  cases srcO k (ev gl cf (!(e.qt && c.qt)) it r) (if (inos it).all (·.isNone) then evs gl cf (!(e.qt && c.qt)) it r else none) with
  | none => rfl
  | some p =>
    obtain ⟨ds, r1⟩ := p
    simp only [kb_some]
    cases own.all fun q => plainAt r1 q.2
    · rfl
    · simp only [if_true, kg_true, kg_false]
      have : lcF gl cf e g c (own.map (·.2)) = fun d r => match bnd g (.val d) r with
            | some r2 => match ev gl cf false c r2 with
              | some (.val (.bool true), r3) => match ev gl cf true e r3 with
                | some (o, r4) => some (some o, wip r4 (own.map (·.2)))
                | none => none
              | some (.val (.bool false), r3) => some (none, wip r3 (own.map (·.2)))
              | _ => none
            | none => none := by
        funext d r
        unfold lcF
        cases bnd g (.val d) r with
        | none => rfl
        | some r2 =>
          simp only [kb_some]
          cases ev gl cf false c r2 with
          | none => rfl
          | some p =>
            obtain ⟨x, r3⟩ := p
            rcases x with ⟨_ | t | _ | _ | _ | _ | _⟩ | _ | _ | _ | _ <;> try rfl
            cases t
            · rfl
            · simp only [kb_some, bl_bool, ki_true]
              cases ev gl cf true e r3 <;> rfl
      refine Eq.trans (b := match lcGo (lcF gl cf e g c (own.map (·.2))) ds (wip r1 (own.map (·.2))) with
        | some (os, r2) => if os.length ≤ sizeLine then some (O.lst (if m then os else os.map fz), back r1 (own.map (·.2)) r2) else none
        | none => none) (congrArg (fun F : D → En → Option (Option O × En) => match lcGo F ds (wip r1 (own.map fun x : Str × Nat => x.2)) with
        | some (os, r2) => if os.length ≤ sizeLine then some (O.lst (if m then os else os.map fz), back r1 (own.map fun x : Str × Nat => x.2) r2) else none
        | none => none) this.symm) ?_
      cases lcGo (lcF gl cf e g c (own.map (·.2))) ds (wip r1 (own.map (·.2))) with
      | none => rfl
      | some q =>
        obtain ⟨os, r2⟩ := q
        simp only [kb_some]
        by_cases h : os.length ≤ sizeLine <;> simp [h, kg_false]
@[simp] theorem ev_call {k : Nat} {as : T} : ev gl cf m (.call k as) r = kb (evs gl cf true as r) (k := ⟨fun p => kb (moveIn (inos as) p.1 p.2) (k := ⟨fun q => kb (cf k q.1) (k := ⟨fun s => kb (moveOut (inos as) s.2 q.2) (k := ⟨fun r3 => some (s.1, r3)⟩)⟩)⟩)⟩) := by
  simp only [ev]
  cases evs gl cf true as r with
  | none => rfl
  | some p =>
    obtain ⟨os, r1⟩ := p
    simp only [kb_some]
    cases moveIn (inos as) os r1 with
    | none => rfl
    | some q =>
      obtain ⟨l, r2⟩ := q
      simp only [kb_some]
      cases cf k l with
      | none => rfl
      | some s =>
        obtain ⟨o, outs⟩ := s
        simp only [kb_some]
        cases moveOut (inos as) outs r2 <;> rfl
@[simp] theorem ev_callk {k : Nat} {as ks : T} {nm : List Str} {pm : List Nat} : ev gl cf m (.callk k as ks nm pm) r = kb (evs gl cf true as r) (k := ⟨fun p => kb (evs gl cf true ks p.2) (k := ⟨fun q => kb (permL (p.1 ++ q.1) pm) (k := ⟨fun l => kg ((p.1 ++ q.1).all O.isVal) (x := ⟨kb (cf k l) (k := ⟨fun s => kg (s.2.all (·.isNone) && (inos as).all (·.isNone) && (inos ks).all (·.isNone)) (x := ⟨some (s.1, q.2)⟩)⟩)⟩)⟩)⟩)⟩) := by
  simp only [ev]
  cases evs gl cf true as r with
  | none => rfl
  | some p =>
    obtain ⟨os, r1⟩ := p
    simp only [kb_some]
    cases evs gl cf true ks r1 with
    | none => rfl
    | some q =>
      obtain ⟨ps, r2⟩ := q
      simp only [kb_some]
      cases permL (os ++ ps) pm with
      | none => rfl
      | some l =>
        simp only [kb_some]
        cases (os ++ ps).all O.isVal
        · rfl
        · simp only [if_true, kg_true, kg_false]
          cases cf k l with
          | none => rfl
          | some s =>
            obtain ⟨o, outs⟩ := s
            simp only [kb_some]
            by_cases hh : (outs.all (·.isNone) && (inos as).all (·.isNone) && (inos ks).all (·.isNone)) = true
            · rw [if_pos hh, hh]; rfl
            · rw [if_neg hh, (Bool.not_eq_true _).mp hh]; rfl
@[simp] theorem ev_bi {b : Bi} {as : T} : ev gl cf m (.bi b as) r = kb (evs gl cf false as r) (k := ⟨fun p => kb (biE b p.1) (k := ⟨fun o => some (o, p.2)⟩)⟩) := by
  simp only [ev]
  cases evs gl cf false as r with
  | none => rfl
  | some p =>
    obtain ⟨os, r1⟩ := p
    simp only [kb_some]
    cases biE b os <;> rfl
@[simp] theorem ev_isi {a : T} {cs : List String} : ev gl cf m (.isi a cs) r = kb (ev gl cf false a r) (k := ⟨fun p => kb (tyn p.1) (k := ⟨fun t => some (.val (.bool (cs.any (isKind t))), p.2)⟩)⟩) := by
  simp only [ev]
  cases ev gl cf false a r with
  | none => rfl
  | some p =>
    obtain ⟨x, r1⟩ := p
    simp only [kb_some]
    cases tyn x <;> rfl
@[simp] theorem ev_lrg {a : T} : ev gl cf m (.lrg a) r = kb (ev gl cf false a r) (k := ⟨fun p => kb (it? p.1) (k := ⟨fun b => kb (lrngE 0 b) (k := ⟨fun o => some (o, p.2)⟩)⟩)⟩) := by
  simp only [ev]
  cases ev gl cf false a r with
  | none => rfl
  | some p =>
    obtain ⟨x, r1⟩ := p
    rcases x with ⟨_ | _ | b | _ | _ | _ | _⟩ | _ | _ | _ | _ <;> try rfl
@[simp] theorem ev_lrg2 {a b : T} : ev gl cf m (.lrg2 a b) r = kb (ev gl cf false a r) (k := ⟨fun p => kb (it? p.1) (k := ⟨fun x => kb (ev gl cf false b p.2) (k := ⟨fun q => kb (it? q.1) (k := ⟨fun y => kb (lrngE x y) (k := ⟨fun o => some (o, q.2)⟩)⟩)⟩)⟩)⟩) := by
  simp only [ev]
  cases ev gl cf false a r with
  | none => rfl
  | some p =>
    obtain ⟨x, r1⟩ := p
    rcases x with ⟨_ | _ | x | _ | _ | _ | _⟩ | _ | _ | _ | _ <;> try rfl
    simp only [kb_some, it_int]
    cases ev gl cf false b r1 with
    | none => rfl
    | some q =>
      obtain ⟨y, r2⟩ := q
      rcases y with ⟨_ | _ | y | _ | _ | _ | _⟩ | _ | _ | _ | _ <;> try rfl
@[simp] theorem ev_app {o a : T} : ev gl cf m (.app o a) r = kb (placeL gl o r) (k := ⟨fun p => kg (p.2.isEmpty || a.qt) (x := ⟨kb (ev gl cf true a r) (k := ⟨fun q => kb (placeU (appF q.1) p.1 p.2 q.2) (k := ⟨fun r2 => some (.val .none, r2)⟩)⟩)⟩)⟩) := by
  simp only [ev]
  cases placeL gl o r with
  | none => rfl
  | some p =>
    obtain ⟨i, ks⟩ := p
    simp only [kb_some]
    cases (ks.isEmpty || a.qt)
    · rfl
    · simp only [if_true, kg_true, kg_false]
      cases ev gl cf true a r with
      | none => rfl
      | some q =>
        obtain ⟨v, r1⟩ := q
        simp only [kb_some]
        cases placeU (appF v) i ks r1 <;> rfl
def extK (i : Nat) (ks : List Int) (r1 : En) : D → Option (O × En)
  | .list ds => kb (placeU (extF ds) i ks r1) (k := ⟨fun r2 => some (.val .none, r2)⟩)
  | _ => none
@[simp] theorem extK_list {i ks r1 ds} : extK i ks r1 (.list ds) = kb (placeU (extF ds) i ks r1) (k := ⟨fun r2 => some (.val .none, r2)⟩) := (rfl)
@[simp] theorem ev_ext {o a : T} : ev gl cf m (.ext o a) r = kb (placeL gl o r) (k := ⟨fun p => kg (p.2.isEmpty || a.qt) (x := ⟨kb (ev gl cf false a r) (k := ⟨fun q => kb q.1.sh (k := ⟨fun d => extK p.1 p.2 q.2 d⟩)⟩)⟩)⟩) := by
  simp only [ev]
  cases placeL gl o r with
  | none => rfl
  | some p =>
    obtain ⟨i, ks⟩ := p
    simp only [kb_some]
    cases (ks.isEmpty || a.qt)
    · rfl
    · simp only [if_true, kg_true, kg_false]
      cases ev gl cf false a r with
      | none => rfl
      | some q =>
        obtain ⟨v, r1⟩ := q
        simp only [kb_some]
        cases v.sh with
        | none => rfl
        | some d =>
          cases d <;> try rfl
@[simp] theorem ev_nil : ev gl cf m .nil r = some (.tup [], r) := by simp only [ev]
@[simp] theorem evs_nil : evs gl cf m .nil r = some ([], r) := by simp only [evs]
@[simp] theorem evs_ino {i : Nat} {s : T} : evs gl cf true (.cons (.ino i) s) r = kb (ge r i) (k := ⟨fun _ => kb (evs gl cf true s r) (k := ⟨fun p => some (.fn 0 :: p.1, p.2)⟩)⟩) := by
  simp only [evs]
  cases ge r i with
  | none => rfl
  | some o =>
    simp only [kb_some]
    cases evs gl cf true s r <;> rfl
def T.isIno : T → Bool
  | .ino _ => true
  | _ => false
def isIno : T → Bool
  | .ino _ => true
  | _ => false
theorem evs_cons0 {a s : T} (h : ∀ i, a ≠ .ino i) : evs gl cf m (.cons a s) r = match ev gl cf m a r with
    | some (o, r1) => match evs gl cf m s r1 with
      | some (os, r2) => if o.isVal || m || !a.isPl || s.qt then some (o :: os, r2) else none
      | none => none
    | none => none := by
  cases a
  case ino i => exact absurd rfl (h i)
  all_goals rfl
theorem evs_cons {a s : T} (h : isIno a = false) : evs gl cf m (.cons a s) r = kb (ev gl cf m a r) (k := ⟨fun p => kb (evs gl cf m s p.2) (k := ⟨fun q => kg (p.1.isVal || m || !a.isPl || s.qt) (x := ⟨some (p.1 :: q.1, q.2)⟩)⟩)⟩) := by
  rw [evs_cons0 gl cf m r fun i e => by subst e; cases h]
  cases ev gl cf m a r with
  | none => rfl
  | some p =>
    obtain ⟨o, r1⟩ := p
    simp only [kb_some]
    cases evs gl cf m s r1 with
    | none => rfl
    | some q =>
      obtain ⟨os, r2⟩ := q
      simp only [kb_some]
      by_cases hh : (o.isVal || m || !a.isPl || s.qt) = true
      · rw [if_pos hh, hh]; rfl
      · rw [if_neg hh, (Bool.not_eq_true _).mp hh]; rfl
end
end Pl

end
section
set_option maxHeartbeats 4000000
/-! Pl1: statements and calls as steps that simp walks. -/
namespace Pl
open PySem L2 Mi
@[simp] theorem kb_ki {α β : Type} {c : Bool} {x y : Option α} {k : α → Option β} : kb (ki c (x := ⟨x⟩) (y := ⟨y⟩)) (k := ⟨k⟩) = ki c (x := ⟨kb x (k := ⟨k⟩)⟩) (y := ⟨kb y (k := ⟨k⟩)⟩) := by cases c <;> rfl
theorem ki_ite {β : Type} {c : Bool} {x y : β} : ki c (x := ⟨x⟩) (y := ⟨y⟩) = if c then x else y := by cases c <;> rfl
class Ks where
  f : En → Option (Fl × En)
def sqK (x : Option (Fl × En)) [k : Ks] : Option (Fl × En) := match x with
  | some (.nx, r1) => k.f r1
  | x => x
@[simp] theorem sqK_nx {r : En} {k : En → Option (Fl × En)} : sqK (some (.nx, r)) (k := ⟨k⟩) = k r := (rfl)
@[simp] theorem sqK_rt {o : O} {r : En} {k : Ks} : sqK (some (.rt o, r)) (k := k) = some (.rt o, r) := (rfl)
@[simp] theorem sqK_bk {r : En} {k : Ks} : sqK (some (.bk, r)) (k := k) = some (.bk, r) := (rfl)
@[simp] theorem sqK_ct {r : En} {k : Ks} : sqK (some (.ct, r)) (k := k) = some (.ct, r) := (rfl)
@[simp] theorem sqK_none {k : Ks} : sqK none (k := k) = none := (rfl)
@[simp] theorem sqK_ki {c : Bool} {x y : Option (Fl × En)} {k : En → Option (Fl × En)} : sqK (ki c (x := ⟨x⟩) (y := ⟨y⟩)) (k := ⟨k⟩) = ki c (x := ⟨sqK x (k := ⟨k⟩)⟩) (y := ⟨sqK y (k := ⟨k⟩)⟩) := by cases c <;> rfl
/-- a def's end -/
def endK (io : List Bool) (x : Option (Fl × En)) : Option (O × List (Option O)) := match x with
  | some (.rt o, r) => kb (outsE io r) (k := ⟨fun l => some (o, l)⟩)
  | some (.nx, r) => kb (outsE io r) (k := ⟨fun l => some (.val .none, l)⟩)
  | _ => none
@[simp] theorem endK_rt {io : List Bool} {o : O} {r : En} : endK io (some (.rt o, r)) = kb (outsE io r) (k := ⟨fun l => some (o, l)⟩) := (rfl)
@[simp] theorem endK_nx {io : List Bool} {r : En} : endK io (some (.nx, r)) = kb (outsE io r) (k := ⟨fun l => some (.val .none, l)⟩) := (rfl)
@[simp] theorem endK_ki {io : List Bool} {c : Bool} {x y : Option (Fl × En)} : endK io (ki c (x := ⟨x⟩) (y := ⟨y⟩)) = ki c (x := ⟨endK io x⟩) (y := ⟨endK io y⟩) := by cases c <;> rfl
@[simp] theorem outsE_nil {r : En} : outsE [] r = some [] := by cases r <;> rfl
@[simp] theorem outsE_f {bs : List Bool} {x : Option O} {r : En} : outsE (false :: bs) (x :: r) = kb (outsE bs r) (k := ⟨fun l => some (none :: l)⟩) := by simp only [outsE]; cases outsE bs r <;> rfl
@[simp] theorem outsE_t {bs : List Bool} {o : O} {r : En} : outsE (true :: bs) (some o :: r) = kb (outsE bs r) (k := ⟨fun l => some (some o :: l)⟩) := by simp only [outsE]; cases outsE bs r <;> rfl
@[simp] theorem fz_val {d : D} : fz (.val d) = .val d := (rfl)
@[simp] theorem fz_comp {α : Type} {f : α → D} : (fz ∘ fun x => O.val (f x)) = fun x => O.val (f x) := (rfl)
@[simp] theorem fz_comp1 : fz ∘ O.val = O.val := (rfl)
@[simp] theorem fz_comp2 {α : Type} {f : α → D} : fz ∘ (O.val ∘ f) = O.val ∘ f := (rfl)
@[simp] theorem fz_mapf {α : Type} {f : α → D} {xs : List α} : (xs.map fun x => O.val (f x)).map fz = xs.map fun x => O.val (f x) := by rw [List.map_map]; rfl
@[simp] theorem fz_map1 {ds : List D} : (ds.map O.val).map fz = ds.map O.val := by rw [List.map_map]; rfl
@[simp] theorem fz_scr {ns : List Int} : fz (.scr ns) = .scr ns := (rfl)
@[simp] theorem fz_fn {k : Nat} : fz (.fn k) = .fn k := (rfl)
theorem cl_end {gl : List (Str × D)} {P : List Df} {n k : Nat} {os : List O} {d : Df} (hP : P[k]? = some d) (h : os.length = d.np ∧ d.io.length = d.np ∧ ioOk d.io d.body.st = true) :
    cl gl P (n + 1) k os = endK d.io (ex gl (cl gl P n) d.body ((fzL d.io os).map some ++ List.replicate d.nl none)) := by
  simp only [cl, hP]
  rw [if_pos h]
  cases ex gl (cl gl P n) d.body ((fzL d.io os).map some ++ List.replicate d.nl none) with
  | none => rfl
  | some p =>
    obtain ⟨f, r⟩ := p
    cases f <;> simp [endK] <;> cases outsE d.io r <;> rfl
section
variable (gl : List (Str × D)) (cf : Cf) (r : En)
@[simp] theorem ex_set {g : G} {e : T} : ex gl cf (.set g e) r = kb (ev gl cf true e r) (k := ⟨fun p => kb (sto gl g p.1 p.2) (k := ⟨fun r2 => some (.nx, r2)⟩)⟩) := by
  simp only [ex]
  cases ev gl cf true e r with
  | none => rfl
  | some p =>
    obtain ⟨o, r1⟩ := p
    simp only [kb_some]
    cases sto gl g o r1 <;> rfl
@[simp] theorem ex_aug {i : Nat} {op : Bop} {e : T} : ex gl cf (.aug i op e) r = kb (ge r i) (k := ⟨fun o => kb (vl? o) (k := ⟨fun d => kb (ev gl cf false e r) (k := ⟨fun p => kb (vl? p.1) (k := ⟨fun y => kb (augD op d y) (k := ⟨fun o => kg o.isVal (x := ⟨some (.nx, p.2.set i (some o))⟩)⟩)⟩)⟩)⟩)⟩) := by
  simp only [ex]
  cases ge r i with
  | none => rfl
  | some o =>
    cases o <;> try rfl
    simp only [kb_some, vl_val]
    cases ev gl cf false e r with
    | none => rfl
    | some p =>
      obtain ⟨y, r1⟩ := p
      cases y <;> try rfl
      rename_i d y
      simp only [kb_some, vl_val]
      cases augD op d y with
      | none => rfl
      | some o =>
        simp only [kb_some]
        by_cases h : o.isVal = true
        · rw [if_pos h, h]; rfl
        · rw [if_neg h, (Bool.not_eq_true _).mp h]; rfl
@[simp] theorem ex_augs {o i : T} {op : Bop} {e : T} : ex gl cf (.augs o i op e) r = kb (placeL gl o r) (k := ⟨fun p => kb (evS gl r i) (k := ⟨fun ki => kb (it? ki) (k := ⟨fun k => kg e.qt (x := ⟨kb (getAt r p k) (k := ⟨fun o => kb (vl? o) (k := ⟨fun d => kb (ev gl cf false e r) (k := ⟨fun q => kb (vl? q.1) (k := ⟨fun y => kb (augD op d y) (k := ⟨fun v => kg v.isVal (x := ⟨kb (setAt q.2 p k v) (k := ⟨fun r2 => some (.nx, r2)⟩)⟩)⟩)⟩)⟩)⟩)⟩)⟩)⟩)⟩)⟩) := by
  simp only [ex]
  cases placeL gl o r with
  | none => rfl
  | some p =>
    simp only [kb_some]
    cases evS gl r i with
    | none => rfl
    | some x =>
      rcases x with ⟨_ | _ | k | _ | _ | _ | _⟩ | _ | _ | _ | _ <;> try rfl
      simp only [kb_some, it_int]
      cases e.qt
      · rfl
      · simp only [if_true, kg_true]
        cases getAt r p k with
        | none => rfl
        | some x =>
          cases x <;> try rfl
          simp only [kb_some, vl_val]
          cases ev gl cf false e r with
          | none => rfl
          | some q =>
            obtain ⟨y, r1⟩ := q
            cases y <;> try rfl
            rename_i d y
            simp only [kb_some, vl_val]
            cases augD op d y with
            | none => rfl
            | some v =>
              simp only [kb_some]
              by_cases h : v.isVal = true
              · rw [if_pos h, h]
                simp only [kg_true]
                cases setAt r1 p k v <;> rfl
              · rw [if_neg h, (Bool.not_eq_true _).mp h]; rfl
@[simp] theorem ex_ex {e : T} : ex gl cf (.ex e) r = kb (ev gl cf true e r) (k := ⟨fun p => some (.nx, p.2)⟩) := by
  simp only [ex]
  cases ev gl cf true e r <;> rfl
@[simp] theorem ex_ret {e : T} : ex gl cf (.ret e) r = kb (mv gl cf e r) (k := ⟨fun p => some (.rt p.1, p.2)⟩) := by
  simp only [ex]
  cases mv gl cf e r <;> rfl
@[simp] theorem ex_ite {c : T} {a b : S} : ex gl cf (.ite c a b) r = kb (ev gl cf false c r) (k := ⟨fun p => kb (bl? p.1) (k := ⟨fun t => ki t (x := ⟨ex gl cf a p.2⟩) (y := ⟨ex gl cf b p.2⟩)⟩)⟩) := by
  simp only [ex, cnd]
  cases ev gl cf false c r with
  | none => rfl
  | some p =>
    obtain ⟨x, r1⟩ := p
    simp only [kb_some]
    cases bl? x with
    | none => rfl
    | some t => cases t <;> rfl
def cndK (c : T) (r : En) : Option (Bool × En) := kb (ev gl cf false c r) (k := ⟨fun p => kb (bl? p.1) (k := ⟨fun b => some (b, p.2)⟩)⟩)
theorem cnd_eq {c : T} : cnd gl cf c = cndK gl cf c := by
  funext r
  unfold cnd cndK
  cases ev gl cf false c r with
  | none => rfl
  | some p =>
    obtain ⟨x, r1⟩ := p
    simp only [kb_some]
    cases bl? x <;> rfl
@[simp] theorem ex_whl {c : T} {b : S} : ex gl cf (.whl c b) r = whlGo (cndK gl cf c) (ex gl cf b) LF r := by simp only [ex, cnd_eq]
@[simp] theorem ex_for {g : G} {k : Sk} {it : T} {b : S} : ex gl cf (.for_ g k it b) r = kb (src gl cf k it r) (k := ⟨fun p => forGo g (ex gl cf b) p.1 p.2⟩) := by
  simp only [ex]
  cases src gl cf k it r <;> rfl
@[simp] theorem ex_pass : ex gl cf .pass r = some (.nx, r) := by simp only [ex]
@[simp] theorem ex_nop : ex gl cf .nop r = some (.nx, r) := by simp only [ex]
@[simp] theorem ex_brk : ex gl cf .brk r = some (.bk, r) := by simp only [ex]
@[simp] theorem ex_cont : ex gl cf .cont r = some (.ct, r) := by simp only [ex]
@[simp] theorem ex_sq {a b : S} : ex gl cf (.sq a b) r = sqK (ex gl cf a r) (k := ⟨fun r1 => ex gl cf b r1⟩) := by
  simp only [ex]
  cases ex gl cf a r with
  | none => rfl
  | some p =>
    obtain ⟨f, r1⟩ := p
    cases f <;> rfl
@[simp] theorem mv_var {i : Nat} : mv gl cf (.var i) r = kb (ge r i) (k := ⟨fun o => some (o, ki o.isVal (x := ⟨r⟩) (y := ⟨r.set i none⟩))⟩) := by
  simp only [mv]
  cases ge r i with
  | none => rfl
  | some o => cases h : o.isVal <;> simp [h, kg_false]
def isVT : T → Bool
  | .var _ => true
  | .tup _ => true
  | _ => false
theorem mv_ev {t : T} (h : isVT t = false) : mv gl cf t r = ev gl cf true t r := by
  cases t <;> first | (cases h; done) | rfl
@[simp] theorem mv_tup {as : T} : mv gl cf (.tup as) r = kb (mvs gl cf as r) (k := ⟨fun p => tupK p.1 p.2⟩) := by
  simp only [mv]
  cases mvs gl cf as r with
  | none => rfl
  | some p =>
    obtain ⟨os, r1⟩ := p
    simp only [kb_some, tupK]
    cases hv : vals os with
    | none => by_cases h : os.length ≤ sizeLine <;> simp [h, hv, kg_false]
    | some ds =>
      have : ds.length = os.length := vals_len hv
      by_cases h : os.length ≤ sizeLine <;> simp [h, hv, kg_false, this]
@[simp] theorem mvs_nil : mvs gl cf .nil r = some ([], r) := by simp only [mvs]
@[simp] theorem mvs_cons {a s : T} : mvs gl cf (.cons a s) r = kb (mv gl cf a r) (k := ⟨fun p => kb (mvs gl cf s p.2) (k := ⟨fun q => some (p.1 :: q.1, q.2)⟩)⟩) := by
  simp only [mvs]
  cases mv gl cf a r with
  | none => rfl
  | some p =>
    obtain ⟨o, r1⟩ := p
    simp only [kb_some]
    cases mvs gl cf s r1 <;> rfl
@[simp] theorem sto_nm {i : Nat} {o : O} : sto gl (.nm i) o r = kg (decide (i < r.length)) (x := ⟨some (r.set i (some o))⟩) := by
  simp only [sto]
  by_cases h : i < r.length <;> simp [h, kg_true, kg_false]
@[simp] theorem sto_tpv {gs : G} {ds : List D} : sto gl (.tp gs) (.val (.tuple ds)) r = stos gl gs (ds.map O.val) r := by simp only [sto]
@[simp] theorem sto_tpo {gs : G} {os : List O} : sto gl (.tp gs) (.tup os) r = stos gl gs os r := by simp only [sto]
@[simp] theorem sto_sb {o i : T} {v : O} : sto gl (.sb o i) v r = kb (placeL gl o r) (k := ⟨fun p => kb (evS gl r i) (k := ⟨fun x => kb (it? x) (k := ⟨fun k => setAt r p k v⟩)⟩)⟩) := by
  simp only [sto]
  cases placeL gl o r with
  | none => rfl
  | some p =>
    simp only [kb_some]
    cases evS gl r i with
    | none => rfl
    | some x => rcases x with ⟨_ | _ | k | _ | _ | _ | _⟩ | _ | _ | _ | _ <;> rfl
@[simp] theorem stos_nil : stos gl .nil [] r = some r := by simp only [stos]
@[simp] theorem stos_cons {g gs : G} {o : O} {os : List O} : stos gl (.cons g gs) (o :: os) r = kb (sto gl g o r) (k := ⟨fun r1 => stos gl gs os r1⟩) := by
  simp only [stos]
  cases sto gl g o r <;> rfl
@[simp] theorem bnd_nm {i : Nat} {o : O} : bnd (.nm i) o r = kg (decide (i < r.length)) (x := ⟨some (r.set i (some o))⟩) := by
  simp only [bnd]
  by_cases h : i < r.length <;> simp [h, kg_true, kg_false]
@[simp] theorem bnd_tpv {gs : G} {ds : List D} : bnd (.tp gs) (.val (.tuple ds)) r = bnds gs (ds.map O.val) r := by simp only [bnd]
@[simp] theorem bnd_tpo {gs : G} {os : List O} : bnd (.tp gs) (.tup os) r = bnds gs os r := by simp only [bnd]
@[simp] theorem bnds_nil : bnds .nil [] r = some r := by simp only [bnds]
@[simp] theorem bnds_cons {g gs : G} {o : O} {os : List O} : bnds (.cons g gs) (o :: os) r = kb (bnd g o r) (k := ⟨fun r1 => bnds gs os r1⟩) := by
  simp only [bnds]
  cases bnd g o r <;> rfl
@[simp] theorem src_seq {it : T} : src gl cf .seq it r = kb (ev gl cf true it r) (k := ⟨fun p => kb p.1.its (k := ⟨fun ds => some (ds, p.2)⟩)⟩) := by
  unfold src srcO
  cases ev gl cf true it r with
  | none => rfl
  | some p =>
    obtain ⟨o, r1⟩ := p
    simp only [kb_some]
    cases o.its <;> rfl
@[simp] theorem src_enm {it : T} : src gl cf .enm it r = kb (ev gl cf true it r) (k := ⟨fun p => kb p.1.its (k := ⟨fun ds => some (enumD 0 ds, p.2)⟩)⟩) := by
  unfold src srcO
  cases ev gl cf true it r with
  | none => rfl
  | some p =>
    obtain ⟨o, r1⟩ := p
    simp only [kb_some]
    cases o.its <;> rfl
@[simp] theorem src_rng {it : T} : src gl cf .rng it r = kg ((inos it).all (·.isNone)) (x := ⟨kb (evs gl cf true it r) (k := ⟨fun p => kb (rngE p.1) (k := ⟨fun ds => some (ds, p.2)⟩)⟩)⟩) := by
  unfold src srcO
  cases (inos it).all (·.isNone)
  · rfl
  · simp only [if_true, kg_true]
    cases evs gl cf true it r with
    | none => rfl
    | some p =>
      obtain ⟨o, r1⟩ := p
      simp only [kb_some]
      cases rngE o <;> rfl
@[simp] theorem src_zip {it : T} : src gl cf .zip it r = kg ((inos it).all (·.isNone)) (x := ⟨kb (evs gl cf true it r) (k := ⟨fun p => kb (zipE p.1) (k := ⟨fun ds => some (ds, p.2)⟩)⟩)⟩) := by
  unfold src srcO
  cases (inos it).all (·.isNone)
  · rfl
  · simp only [if_true, kg_true]
    cases evs gl cf true it r with
    | none => rfl
    | some p =>
      obtain ⟨o, r1⟩ := p
      simp only [kb_some]
      cases zipE o <;> rfl
end
@[simp] theorem srcO_seq {x : Option (O × En)} {xs : Option (List O × En)} : srcO .seq x xs = kb x (k := ⟨fun p => kb p.1.its (k := ⟨fun ds => some (ds, p.2)⟩)⟩) := by
  unfold srcO
  cases x with
  | none => rfl
  | some p =>
    obtain ⟨o, r1⟩ := p
    simp only [kb_some]
    cases o.its <;> rfl
@[simp] theorem srcO_enm {x : Option (O × En)} {xs : Option (List O × En)} : srcO .enm x xs = kb x (k := ⟨fun p => kb p.1.its (k := ⟨fun ds => some (enumD 0 ds, p.2)⟩)⟩) := by
  unfold srcO
  cases x with
  | none => rfl
  | some p =>
    obtain ⟨o, r1⟩ := p
    simp only [kb_some]
    cases o.its <;> rfl
@[simp] theorem srcO_rng {x : Option (O × En)} {xs : Option (List O × En)} : srcO .rng x xs = kb xs (k := ⟨fun p => kb (rngE p.1) (k := ⟨fun ds => some (ds, p.2)⟩)⟩) := by
  unfold srcO
  cases xs with
  | none => rfl
  | some p =>
    obtain ⟨o, r1⟩ := p
    simp only [kb_some]
    cases rngE o <;> rfl
@[simp] theorem srcO_zip {x : Option (O × En)} {xs : Option (List O × En)} : srcO .zip x xs = kb xs (k := ⟨fun p => kb (zipE p.1) (k := ⟨fun ds => some (ds, p.2)⟩)⟩) := by
  unfold srcO
  cases xs with
  | none => rfl
  | some p =>
    obtain ⟨o, r1⟩ := p
    simp only [kb_some]
    cases zipE o <;> rfl
theorem part_eq {x : Option (O × En)} : part x = kb x (k := ⟨fun p => kb (it? p.1) (k := ⟨fun i => some (some i, p.2)⟩)⟩) := by
  cases x with
  | none => rfl
  | some p =>
    obtain ⟨o, r1⟩ := p
    rcases o with ⟨_ | _ | k | _ | _ | _ | _⟩ | _ | _ | _ | _ <;> rfl
@[simp] theorem prtE_eq {t : T} {r : En} {x : Option (O × En)} : prtE t r x = ki t.isNil (x := ⟨some (none, r)⟩) (y := ⟨kb x (k := ⟨fun p => kb (it? p.1) (k := ⟨fun i => some (some i, p.2)⟩)⟩)⟩) := by
  unfold prtE
  cases t.isNil
  · exact part_eq
  · rfl
section
variable (gl : List (Str × D)) (cf : Cf) (m : Bool) (r : En)
@[simp] theorem mv_con (c : PyData) : mv gl cf (.con c) r = ev gl cf true (.con c) r := mv_ev gl cf r rfl
@[simp] theorem mv_glo (j : Nat) : mv gl cf (.glo j) r = ev gl cf true (.glo j) r := mv_ev gl cf r rfl
@[simp] theorem mv_fn (k : Nat) : mv gl cf (.fn k) r = ev gl cf true (.fn k) r := mv_ev gl cf r rfl
@[simp] theorem mv_bin (op : Bop) (a b : T) : mv gl cf (.bin op a b) r = ev gl cf true (.bin op a b) r := mv_ev gl cf r rfl
@[simp] theorem mv_not (a : T) : mv gl cf (.not a) r = ev gl cf true (.not a) r := mv_ev gl cf r rfl
@[simp] theorem mv_neg (a : T) : mv gl cf (.neg a) r = ev gl cf true (.neg a) r := mv_ev gl cf r rfl
@[simp] theorem mv_and (a b : T) : mv gl cf (.and a b) r = ev gl cf true (.and a b) r := mv_ev gl cf r rfl
@[simp] theorem mv_or (a b : T) : mv gl cf (.or a b) r = ev gl cf true (.or a b) r := mv_ev gl cf r rfl
@[simp] theorem mv_cmp (op : Cop) (a b : T) : mv gl cf (.cmp op a b) r = ev gl cf true (.cmp op a b) r := mv_ev gl cf r rfl
@[simp] theorem mv_cmp2 (u v : Cop) (a b c : T) : mv gl cf (.cmp2 u v a b c) r = ev gl cf true (.cmp2 u v a b c) r := mv_ev gl cf r rfl
@[simp] theorem mv_ife (c a b : T) : mv gl cf (.ife c a b) r = ev gl cf true (.ife c a b) r := mv_ev gl cf r rfl
@[simp] theorem mv_lst (as : T) : mv gl cf (.lst as) r = ev gl cf true (.lst as) r := mv_ev gl cf r rfl
@[simp] theorem mv_idx (a b : T) : mv gl cf (.idx a b) r = ev gl cf true (.idx a b) r := mv_ev gl cf r rfl
@[simp] theorem mv_slc (a lo hi : T) : mv gl cf (.slc a lo hi) r = ev gl cf true (.slc a lo hi) r := mv_ev gl cf r rfl
@[simp] theorem mv_rev (a : T) : mv gl cf (.rev a) r = ev gl cf true (.rev a) r := mv_ev gl cf r rfl
@[simp] theorem mv_lc (e : T) (g : G) (k : Sk) (it c : T) (own : List (Str × Nat)) : mv gl cf (.lc e g k it c own) r = ev gl cf true (.lc e g k it c own) r := mv_ev gl cf r rfl
@[simp] theorem mv_call (k : Nat) (as : T) : mv gl cf (.call k as) r = ev gl cf true (.call k as) r := mv_ev gl cf r rfl
@[simp] theorem mv_callk (k : Nat) (as ks : T) (nm : List Str) (pm : List Nat) : mv gl cf (.callk k as ks nm pm) r = ev gl cf true (.callk k as ks nm pm) r := mv_ev gl cf r rfl
@[simp] theorem mv_bi (b : Bi) (as : T) : mv gl cf (.bi b as) r = ev gl cf true (.bi b as) r := mv_ev gl cf r rfl
@[simp] theorem mv_isi (a : T) (cs : List String) : mv gl cf (.isi a cs) r = ev gl cf true (.isi a cs) r := mv_ev gl cf r rfl
@[simp] theorem mv_lrg (a : T) : mv gl cf (.lrg a) r = ev gl cf true (.lrg a) r := mv_ev gl cf r rfl
@[simp] theorem mv_lrg2 (a b : T) : mv gl cf (.lrg2 a b) r = ev gl cf true (.lrg2 a b) r := mv_ev gl cf r rfl
@[simp] theorem mv_app (o a : T) : mv gl cf (.app o a) r = ev gl cf true (.app o a) r := mv_ev gl cf r rfl
@[simp] theorem mv_ext (o a : T) : mv gl cf (.ext o a) r = ev gl cf true (.ext o a) r := mv_ev gl cf r rfl
@[simp] theorem mv_pop (o : T) : mv gl cf (.pop o) r = ev gl cf true (.pop o) r := mv_ev gl cf r rfl
@[simp] theorem mv_popi (o a : T) : mv gl cf (.popi o a) r = ev gl cf true (.popi o a) r := mv_ev gl cf r rfl
@[simp] theorem evs_c_con (c : PyData) (s : T) : evs gl cf m (.cons (.con c) s) r = kb (ev gl cf m (.con c) r) (k := ⟨fun p => kb (evs gl cf m s p.2) (k := ⟨fun q => kg (p.1.isVal || m || !(T.con c).isPl || s.qt) (x := ⟨some (p.1 :: q.1, q.2)⟩)⟩)⟩) := evs_cons gl cf m r rfl
@[simp] theorem inos_c_con (c : PyData) (s : T) : inos (.cons (.con c) s) = none :: inos s := (rfl)
@[simp] theorem isPl_con (c : PyData) : (T.con c).isPl = false := (rfl)
@[simp] theorem isNil_con (c : PyData) : T.isNil (.con c) = false := (rfl)
@[simp] theorem evs_c_glo (j : Nat) (s : T) : evs gl cf m (.cons (.glo j) s) r = kb (ev gl cf m (.glo j) r) (k := ⟨fun p => kb (evs gl cf m s p.2) (k := ⟨fun q => kg (p.1.isVal || m || !(T.glo j).isPl || s.qt) (x := ⟨some (p.1 :: q.1, q.2)⟩)⟩)⟩) := evs_cons gl cf m r rfl
@[simp] theorem inos_c_glo (j : Nat) (s : T) : inos (.cons (.glo j) s) = none :: inos s := (rfl)
@[simp] theorem isPl_glo (j : Nat) : (T.glo j).isPl = false := (rfl)
@[simp] theorem isNil_glo (j : Nat) : T.isNil (.glo j) = false := (rfl)
@[simp] theorem evs_c_fn (k : Nat) (s : T) : evs gl cf m (.cons (.fn k) s) r = kb (ev gl cf m (.fn k) r) (k := ⟨fun p => kb (evs gl cf m s p.2) (k := ⟨fun q => kg (p.1.isVal || m || !(T.fn k).isPl || s.qt) (x := ⟨some (p.1 :: q.1, q.2)⟩)⟩)⟩) := evs_cons gl cf m r rfl
@[simp] theorem inos_c_fn (k : Nat) (s : T) : inos (.cons (.fn k) s) = none :: inos s := (rfl)
@[simp] theorem isPl_fn (k : Nat) : (T.fn k).isPl = false := (rfl)
@[simp] theorem isNil_fn (k : Nat) : T.isNil (.fn k) = false := (rfl)
@[simp] theorem evs_c_bin (op : Bop) (a b : T) (s : T) : evs gl cf m (.cons (.bin op a b) s) r = kb (ev gl cf m (.bin op a b) r) (k := ⟨fun p => kb (evs gl cf m s p.2) (k := ⟨fun q => kg (p.1.isVal || m || !(T.bin op a b).isPl || s.qt) (x := ⟨some (p.1 :: q.1, q.2)⟩)⟩)⟩) := evs_cons gl cf m r rfl
@[simp] theorem inos_c_bin (op : Bop) (a b : T) (s : T) : inos (.cons (.bin op a b) s) = none :: inos s := (rfl)
@[simp] theorem isPl_bin (op : Bop) (a b : T) : (T.bin op a b).isPl = false := (rfl)
@[simp] theorem isNil_bin (op : Bop) (a b : T) : T.isNil (.bin op a b) = false := (rfl)
@[simp] theorem evs_c_not (a : T) (s : T) : evs gl cf m (.cons (.not a) s) r = kb (ev gl cf m (.not a) r) (k := ⟨fun p => kb (evs gl cf m s p.2) (k := ⟨fun q => kg (p.1.isVal || m || !(T.not a).isPl || s.qt) (x := ⟨some (p.1 :: q.1, q.2)⟩)⟩)⟩) := evs_cons gl cf m r rfl
@[simp] theorem inos_c_not (a : T) (s : T) : inos (.cons (.not a) s) = none :: inos s := (rfl)
@[simp] theorem isPl_not (a : T) : (T.not a).isPl = false := (rfl)
@[simp] theorem isNil_not (a : T) : T.isNil (.not a) = false := (rfl)
@[simp] theorem evs_c_neg (a : T) (s : T) : evs gl cf m (.cons (.neg a) s) r = kb (ev gl cf m (.neg a) r) (k := ⟨fun p => kb (evs gl cf m s p.2) (k := ⟨fun q => kg (p.1.isVal || m || !(T.neg a).isPl || s.qt) (x := ⟨some (p.1 :: q.1, q.2)⟩)⟩)⟩) := evs_cons gl cf m r rfl
@[simp] theorem inos_c_neg (a : T) (s : T) : inos (.cons (.neg a) s) = none :: inos s := (rfl)
@[simp] theorem isPl_neg (a : T) : (T.neg a).isPl = false := (rfl)
@[simp] theorem isNil_neg (a : T) : T.isNil (.neg a) = false := (rfl)
@[simp] theorem evs_c_and (a b : T) (s : T) : evs gl cf m (.cons (.and a b) s) r = kb (ev gl cf m (.and a b) r) (k := ⟨fun p => kb (evs gl cf m s p.2) (k := ⟨fun q => kg (p.1.isVal || m || !(T.and a b).isPl || s.qt) (x := ⟨some (p.1 :: q.1, q.2)⟩)⟩)⟩) := evs_cons gl cf m r rfl
@[simp] theorem inos_c_and (a b : T) (s : T) : inos (.cons (.and a b) s) = none :: inos s := (rfl)
@[simp] theorem isPl_and (a b : T) : (T.and a b).isPl = false := (rfl)
@[simp] theorem isNil_and (a b : T) : T.isNil (.and a b) = false := (rfl)
@[simp] theorem evs_c_or (a b : T) (s : T) : evs gl cf m (.cons (.or a b) s) r = kb (ev gl cf m (.or a b) r) (k := ⟨fun p => kb (evs gl cf m s p.2) (k := ⟨fun q => kg (p.1.isVal || m || !(T.or a b).isPl || s.qt) (x := ⟨some (p.1 :: q.1, q.2)⟩)⟩)⟩) := evs_cons gl cf m r rfl
@[simp] theorem inos_c_or (a b : T) (s : T) : inos (.cons (.or a b) s) = none :: inos s := (rfl)
@[simp] theorem isPl_or (a b : T) : (T.or a b).isPl = false := (rfl)
@[simp] theorem isNil_or (a b : T) : T.isNil (.or a b) = false := (rfl)
@[simp] theorem evs_c_cmp (op : Cop) (a b : T) (s : T) : evs gl cf m (.cons (.cmp op a b) s) r = kb (ev gl cf m (.cmp op a b) r) (k := ⟨fun p => kb (evs gl cf m s p.2) (k := ⟨fun q => kg (p.1.isVal || m || !(T.cmp op a b).isPl || s.qt) (x := ⟨some (p.1 :: q.1, q.2)⟩)⟩)⟩) := evs_cons gl cf m r rfl
@[simp] theorem inos_c_cmp (op : Cop) (a b : T) (s : T) : inos (.cons (.cmp op a b) s) = none :: inos s := (rfl)
@[simp] theorem isPl_cmp (op : Cop) (a b : T) : (T.cmp op a b).isPl = false := (rfl)
@[simp] theorem isNil_cmp (op : Cop) (a b : T) : T.isNil (.cmp op a b) = false := (rfl)
@[simp] theorem evs_c_cmp2 (u v : Cop) (a b c : T) (s : T) : evs gl cf m (.cons (.cmp2 u v a b c) s) r = kb (ev gl cf m (.cmp2 u v a b c) r) (k := ⟨fun p => kb (evs gl cf m s p.2) (k := ⟨fun q => kg (p.1.isVal || m || !(T.cmp2 u v a b c).isPl || s.qt) (x := ⟨some (p.1 :: q.1, q.2)⟩)⟩)⟩) := evs_cons gl cf m r rfl
@[simp] theorem inos_c_cmp2 (u v : Cop) (a b c : T) (s : T) : inos (.cons (.cmp2 u v a b c) s) = none :: inos s := (rfl)
@[simp] theorem isPl_cmp2 (u v : Cop) (a b c : T) : (T.cmp2 u v a b c).isPl = false := (rfl)
@[simp] theorem isNil_cmp2 (u v : Cop) (a b c : T) : T.isNil (.cmp2 u v a b c) = false := (rfl)
@[simp] theorem evs_c_ife (c a b : T) (s : T) : evs gl cf m (.cons (.ife c a b) s) r = kb (ev gl cf m (.ife c a b) r) (k := ⟨fun p => kb (evs gl cf m s p.2) (k := ⟨fun q => kg (p.1.isVal || m || !(T.ife c a b).isPl || s.qt) (x := ⟨some (p.1 :: q.1, q.2)⟩)⟩)⟩) := evs_cons gl cf m r rfl
@[simp] theorem inos_c_ife (c a b : T) (s : T) : inos (.cons (.ife c a b) s) = none :: inos s := (rfl)
@[simp] theorem isPl_ife (c a b : T) : (T.ife c a b).isPl = false := (rfl)
@[simp] theorem isNil_ife (c a b : T) : T.isNil (.ife c a b) = false := (rfl)
@[simp] theorem evs_c_lst (as : T) (s : T) : evs gl cf m (.cons (.lst as) s) r = kb (ev gl cf m (.lst as) r) (k := ⟨fun p => kb (evs gl cf m s p.2) (k := ⟨fun q => kg (p.1.isVal || m || !(T.lst as).isPl || s.qt) (x := ⟨some (p.1 :: q.1, q.2)⟩)⟩)⟩) := evs_cons gl cf m r rfl
@[simp] theorem inos_c_lst (as : T) (s : T) : inos (.cons (.lst as) s) = none :: inos s := (rfl)
@[simp] theorem isPl_lst (as : T) : (T.lst as).isPl = false := (rfl)
@[simp] theorem isNil_lst (as : T) : T.isNil (.lst as) = false := (rfl)
@[simp] theorem evs_c_idx (a b : T) (s : T) : evs gl cf m (.cons (.idx a b) s) r = kb (ev gl cf m (.idx a b) r) (k := ⟨fun p => kb (evs gl cf m s p.2) (k := ⟨fun q => kg (p.1.isVal || m || !(T.idx a b).isPl || s.qt) (x := ⟨some (p.1 :: q.1, q.2)⟩)⟩)⟩) := evs_cons gl cf m r rfl
@[simp] theorem inos_c_idx (a b : T) (s : T) : inos (.cons (.idx a b) s) = none :: inos s := (rfl)
@[simp] theorem isNil_idx (a b : T) : T.isNil (.idx a b) = false := (rfl)
@[simp] theorem evs_c_slc (a lo hi : T) (s : T) : evs gl cf m (.cons (.slc a lo hi) s) r = kb (ev gl cf m (.slc a lo hi) r) (k := ⟨fun p => kb (evs gl cf m s p.2) (k := ⟨fun q => kg (p.1.isVal || m || !(T.slc a lo hi).isPl || s.qt) (x := ⟨some (p.1 :: q.1, q.2)⟩)⟩)⟩) := evs_cons gl cf m r rfl
@[simp] theorem inos_c_slc (a lo hi : T) (s : T) : inos (.cons (.slc a lo hi) s) = none :: inos s := (rfl)
@[simp] theorem isPl_slc (a lo hi : T) : (T.slc a lo hi).isPl = false := (rfl)
@[simp] theorem isNil_slc (a lo hi : T) : T.isNil (.slc a lo hi) = false := (rfl)
@[simp] theorem evs_c_rev (a : T) (s : T) : evs gl cf m (.cons (.rev a) s) r = kb (ev gl cf m (.rev a) r) (k := ⟨fun p => kb (evs gl cf m s p.2) (k := ⟨fun q => kg (p.1.isVal || m || !(T.rev a).isPl || s.qt) (x := ⟨some (p.1 :: q.1, q.2)⟩)⟩)⟩) := evs_cons gl cf m r rfl
@[simp] theorem inos_c_rev (a : T) (s : T) : inos (.cons (.rev a) s) = none :: inos s := (rfl)
@[simp] theorem isPl_rev (a : T) : (T.rev a).isPl = false := (rfl)
@[simp] theorem isNil_rev (a : T) : T.isNil (.rev a) = false := (rfl)
@[simp] theorem evs_c_lc (e : T) (g : G) (k : Sk) (it c : T) (own : List (Str × Nat)) (s : T) : evs gl cf m (.cons (.lc e g k it c own) s) r = kb (ev gl cf m (.lc e g k it c own) r) (k := ⟨fun p => kb (evs gl cf m s p.2) (k := ⟨fun q => kg (p.1.isVal || m || !(T.lc e g k it c own).isPl || s.qt) (x := ⟨some (p.1 :: q.1, q.2)⟩)⟩)⟩) := evs_cons gl cf m r rfl
@[simp] theorem inos_c_lc (e : T) (g : G) (k : Sk) (it c : T) (own : List (Str × Nat)) (s : T) : inos (.cons (.lc e g k it c own) s) = none :: inos s := (rfl)
@[simp] theorem isPl_lc (e : T) (g : G) (k : Sk) (it c : T) (own : List (Str × Nat)) : (T.lc e g k it c own).isPl = false := (rfl)
@[simp] theorem isNil_lc (e : T) (g : G) (k : Sk) (it c : T) (own : List (Str × Nat)) : T.isNil (.lc e g k it c own) = false := (rfl)
@[simp] theorem evs_c_call (k : Nat) (as : T) (s : T) : evs gl cf m (.cons (.call k as) s) r = kb (ev gl cf m (.call k as) r) (k := ⟨fun p => kb (evs gl cf m s p.2) (k := ⟨fun q => kg (p.1.isVal || m || !(T.call k as).isPl || s.qt) (x := ⟨some (p.1 :: q.1, q.2)⟩)⟩)⟩) := evs_cons gl cf m r rfl
@[simp] theorem inos_c_call (k : Nat) (as : T) (s : T) : inos (.cons (.call k as) s) = none :: inos s := (rfl)
@[simp] theorem isPl_call (k : Nat) (as : T) : (T.call k as).isPl = false := (rfl)
@[simp] theorem isNil_call (k : Nat) (as : T) : T.isNil (.call k as) = false := (rfl)
@[simp] theorem evs_c_callk (k : Nat) (as ks : T) (nm : List Str) (pm : List Nat) (s : T) : evs gl cf m (.cons (.callk k as ks nm pm) s) r = kb (ev gl cf m (.callk k as ks nm pm) r) (k := ⟨fun p => kb (evs gl cf m s p.2) (k := ⟨fun q => kg (p.1.isVal || m || !(T.callk k as ks nm pm).isPl || s.qt) (x := ⟨some (p.1 :: q.1, q.2)⟩)⟩)⟩) := evs_cons gl cf m r rfl
@[simp] theorem inos_c_callk (k : Nat) (as ks : T) (nm : List Str) (pm : List Nat) (s : T) : inos (.cons (.callk k as ks nm pm) s) = none :: inos s := (rfl)
@[simp] theorem isPl_callk (k : Nat) (as ks : T) (nm : List Str) (pm : List Nat) : (T.callk k as ks nm pm).isPl = false := (rfl)
@[simp] theorem isNil_callk (k : Nat) (as ks : T) (nm : List Str) (pm : List Nat) : T.isNil (.callk k as ks nm pm) = false := (rfl)
@[simp] theorem evs_c_bi (b : Bi) (as : T) (s : T) : evs gl cf m (.cons (.bi b as) s) r = kb (ev gl cf m (.bi b as) r) (k := ⟨fun p => kb (evs gl cf m s p.2) (k := ⟨fun q => kg (p.1.isVal || m || !(T.bi b as).isPl || s.qt) (x := ⟨some (p.1 :: q.1, q.2)⟩)⟩)⟩) := evs_cons gl cf m r rfl
@[simp] theorem inos_c_bi (b : Bi) (as : T) (s : T) : inos (.cons (.bi b as) s) = none :: inos s := (rfl)
@[simp] theorem isPl_bi (b : Bi) (as : T) : (T.bi b as).isPl = false := (rfl)
@[simp] theorem isNil_bi (b : Bi) (as : T) : T.isNil (.bi b as) = false := (rfl)
@[simp] theorem evs_c_isi (a : T) (cs : List String) (s : T) : evs gl cf m (.cons (.isi a cs) s) r = kb (ev gl cf m (.isi a cs) r) (k := ⟨fun p => kb (evs gl cf m s p.2) (k := ⟨fun q => kg (p.1.isVal || m || !(T.isi a cs).isPl || s.qt) (x := ⟨some (p.1 :: q.1, q.2)⟩)⟩)⟩) := evs_cons gl cf m r rfl
@[simp] theorem inos_c_isi (a : T) (cs : List String) (s : T) : inos (.cons (.isi a cs) s) = none :: inos s := (rfl)
@[simp] theorem isPl_isi (a : T) (cs : List String) : (T.isi a cs).isPl = false := (rfl)
@[simp] theorem isNil_isi (a : T) (cs : List String) : T.isNil (.isi a cs) = false := (rfl)
@[simp] theorem evs_c_lrg (a : T) (s : T) : evs gl cf m (.cons (.lrg a) s) r = kb (ev gl cf m (.lrg a) r) (k := ⟨fun p => kb (evs gl cf m s p.2) (k := ⟨fun q => kg (p.1.isVal || m || !(T.lrg a).isPl || s.qt) (x := ⟨some (p.1 :: q.1, q.2)⟩)⟩)⟩) := evs_cons gl cf m r rfl
@[simp] theorem inos_c_lrg (a : T) (s : T) : inos (.cons (.lrg a) s) = none :: inos s := (rfl)
@[simp] theorem isPl_lrg (a : T) : (T.lrg a).isPl = false := (rfl)
@[simp] theorem isNil_lrg (a : T) : T.isNil (.lrg a) = false := (rfl)
@[simp] theorem evs_c_lrg2 (a b : T) (s : T) : evs gl cf m (.cons (.lrg2 a b) s) r = kb (ev gl cf m (.lrg2 a b) r) (k := ⟨fun p => kb (evs gl cf m s p.2) (k := ⟨fun q => kg (p.1.isVal || m || !(T.lrg2 a b).isPl || s.qt) (x := ⟨some (p.1 :: q.1, q.2)⟩)⟩)⟩) := evs_cons gl cf m r rfl
@[simp] theorem inos_c_lrg2 (a b : T) (s : T) : inos (.cons (.lrg2 a b) s) = none :: inos s := (rfl)
@[simp] theorem isPl_lrg2 (a b : T) : (T.lrg2 a b).isPl = false := (rfl)
@[simp] theorem isNil_lrg2 (a b : T) : T.isNil (.lrg2 a b) = false := (rfl)
@[simp] theorem evs_c_app (o a : T) (s : T) : evs gl cf m (.cons (.app o a) s) r = kb (ev gl cf m (.app o a) r) (k := ⟨fun p => kb (evs gl cf m s p.2) (k := ⟨fun q => kg (p.1.isVal || m || !(T.app o a).isPl || s.qt) (x := ⟨some (p.1 :: q.1, q.2)⟩)⟩)⟩) := evs_cons gl cf m r rfl
@[simp] theorem inos_c_app (o a : T) (s : T) : inos (.cons (.app o a) s) = none :: inos s := (rfl)
@[simp] theorem isPl_app (o a : T) : (T.app o a).isPl = false := (rfl)
@[simp] theorem isNil_app (o a : T) : T.isNil (.app o a) = false := (rfl)
@[simp] theorem evs_c_ext (o a : T) (s : T) : evs gl cf m (.cons (.ext o a) s) r = kb (ev gl cf m (.ext o a) r) (k := ⟨fun p => kb (evs gl cf m s p.2) (k := ⟨fun q => kg (p.1.isVal || m || !(T.ext o a).isPl || s.qt) (x := ⟨some (p.1 :: q.1, q.2)⟩)⟩)⟩) := evs_cons gl cf m r rfl
@[simp] theorem inos_c_ext (o a : T) (s : T) : inos (.cons (.ext o a) s) = none :: inos s := (rfl)
@[simp] theorem isPl_ext (o a : T) : (T.ext o a).isPl = false := (rfl)
@[simp] theorem isNil_ext (o a : T) : T.isNil (.ext o a) = false := (rfl)
@[simp] theorem evs_c_pop (o : T) (s : T) : evs gl cf m (.cons (.pop o) s) r = kb (ev gl cf m (.pop o) r) (k := ⟨fun p => kb (evs gl cf m s p.2) (k := ⟨fun q => kg (p.1.isVal || m || !(T.pop o).isPl || s.qt) (x := ⟨some (p.1 :: q.1, q.2)⟩)⟩)⟩) := evs_cons gl cf m r rfl
@[simp] theorem inos_c_pop (o : T) (s : T) : inos (.cons (.pop o) s) = none :: inos s := (rfl)
@[simp] theorem isPl_pop (o : T) : (T.pop o).isPl = false := (rfl)
@[simp] theorem isNil_pop (o : T) : T.isNil (.pop o) = false := (rfl)
@[simp] theorem evs_c_popi (o a : T) (s : T) : evs gl cf m (.cons (.popi o a) s) r = kb (ev gl cf m (.popi o a) r) (k := ⟨fun p => kb (evs gl cf m s p.2) (k := ⟨fun q => kg (p.1.isVal || m || !(T.popi o a).isPl || s.qt) (x := ⟨some (p.1 :: q.1, q.2)⟩)⟩)⟩) := evs_cons gl cf m r rfl
@[simp] theorem inos_c_popi (o a : T) (s : T) : inos (.cons (.popi o a) s) = none :: inos s := (rfl)
@[simp] theorem isPl_popi (o a : T) : (T.popi o a).isPl = false := (rfl)
@[simp] theorem isNil_popi (o a : T) : T.isNil (.popi o a) = false := (rfl)
@[simp] theorem evs_c_var (i : Nat) (s : T) : evs gl cf m (.cons (.var i) s) r = kb (ev gl cf m (.var i) r) (k := ⟨fun p => kb (evs gl cf m s p.2) (k := ⟨fun q => kg (p.1.isVal || m || !(T.var i).isPl || s.qt) (x := ⟨some (p.1 :: q.1, q.2)⟩)⟩)⟩) := evs_cons gl cf m r rfl
@[simp] theorem inos_c_var (i : Nat) (s : T) : inos (.cons (.var i) s) = none :: inos s := (rfl)
@[simp] theorem isNil_var (i : Nat) : T.isNil (.var i) = false := (rfl)
@[simp] theorem evs_c_tup (as : T) (s : T) : evs gl cf m (.cons (.tup as) s) r = kb (ev gl cf m (.tup as) r) (k := ⟨fun p => kb (evs gl cf m s p.2) (k := ⟨fun q => kg (p.1.isVal || m || !(T.tup as).isPl || s.qt) (x := ⟨some (p.1 :: q.1, q.2)⟩)⟩)⟩) := evs_cons gl cf m r rfl
@[simp] theorem inos_c_tup (as : T) (s : T) : inos (.cons (.tup as) s) = none :: inos s := (rfl)
@[simp] theorem isPl_tup (as : T) : (T.tup as).isPl = false := (rfl)
@[simp] theorem isNil_tup (as : T) : T.isNil (.tup as) = false := (rfl)
@[simp] theorem isPl_var (i : Nat) : (T.var i).isPl = true := (rfl)
@[simp] theorem isPl_idx (a b : T) : (T.idx a b).isPl = a.isPl := (rfl)
@[simp] theorem qt_con (c : PyData) : T.qt (T.con c) = true := (rfl)
@[simp] theorem qt_glo (j : Nat) : T.qt (T.glo j) = true := (rfl)
@[simp] theorem qt_fn (k : Nat) : T.qt (T.fn k) = true := (rfl)
@[simp] theorem qt_var (i : Nat) : T.qt (T.var i) = true := (rfl)
@[simp] theorem qt_nil  : T.qt T.nil = true := (rfl)
@[simp] theorem qt_bin (op : Bop) (a b : T) : T.qt (T.bin op a b) = (a.qt && b.qt) := (rfl)
@[simp] theorem qt_not (a : T) : T.qt (T.not a) = a.qt := (rfl)
@[simp] theorem qt_neg (a : T) : T.qt (T.neg a) = a.qt := (rfl)
@[simp] theorem qt_and (a b : T) : T.qt (T.and a b) = (a.qt && b.qt) := (rfl)
@[simp] theorem qt_or (a b : T) : T.qt (T.or a b) = (a.qt && b.qt) := (rfl)
@[simp] theorem qt_cmp (op : Cop) (a b : T) : T.qt (T.cmp op a b) = (a.qt && b.qt) := (rfl)
@[simp] theorem qt_cmp2 (u v : Cop) (a b c : T) : T.qt (T.cmp2 u v a b c) = (a.qt && b.qt && c.qt) := (rfl)
@[simp] theorem qt_ife (c a b : T) : T.qt (T.ife c a b) = (c.qt && a.qt && b.qt) := (rfl)
@[simp] theorem qt_tup (as : T) : T.qt (T.tup as) = as.qt := (rfl)
@[simp] theorem qt_lst (as : T) : T.qt (T.lst as) = as.qt := (rfl)
@[simp] theorem qt_cons (a r : T) : T.qt (T.cons a r) = (a.qt && r.qt) := (rfl)
@[simp] theorem qt_idx (a b : T) : T.qt (T.idx a b) = (a.qt && b.qt) := (rfl)
@[simp] theorem qt_slc (a lo hi : T) : T.qt (T.slc a lo hi) = (a.qt && lo.qt && hi.qt) := (rfl)
@[simp] theorem qt_rev (a : T) : T.qt (T.rev a) = a.qt := (rfl)
@[simp] theorem qt_lc (e : T) (g : G) (k : Sk) (it c : T) (own : List (Str × Nat)) : T.qt (T.lc e g k it c own) = (e.qt && it.qt && c.qt) := (rfl)
@[simp] theorem qt_call (k : Nat) (as : T) : T.qt (T.call k as) = as.qt := (rfl)
@[simp] theorem qt_callk (k : Nat) (as ks : T) (nm : List Str) (pm : List Nat) : T.qt (T.callk k as ks nm pm) = (as.qt && ks.qt) := (rfl)
@[simp] theorem qt_ino (i : Nat) : T.qt (T.ino i) = false := (rfl)
@[simp] theorem qt_bi (b : Bi) (as : T) : T.qt (T.bi b as) = as.qt := (rfl)
@[simp] theorem qt_isi (a : T) (cs : List String) : T.qt (T.isi a cs) = a.qt := (rfl)
@[simp] theorem qt_lrg (a : T) : T.qt (T.lrg a) = a.qt := (rfl)
@[simp] theorem qt_lrg2 (a b : T) : T.qt (T.lrg2 a b) = (a.qt && b.qt) := (rfl)
@[simp] theorem qt_app (o a : T) : T.qt (T.app o a) = false := (rfl)
@[simp] theorem qt_ext (o a : T) : T.qt (T.ext o a) = false := (rfl)
@[simp] theorem qt_pop (o : T) : T.qt (T.pop o) = false := (rfl)
@[simp] theorem qt_popi (o a : T) : T.qt (T.popi o a) = false := (rfl)
end
section
variable (gl : List (Str × D)) (r : En)
@[simp] theorem evS_var {i : Nat} : evS gl r (.var i) = ge r i := by simp only [evS]
@[simp] theorem evS_con {c : D} : evS gl r (.con c) = some (.val c) := by simp only [evS]
@[simp] theorem evS_glo {j : Nat} : evS gl r (.glo j) = kb gl[j]? (k := ⟨fun p => some (.val p.2)⟩) := by simp only [evS]; cases gl[j]? <;> rfl
@[simp] theorem evS_bin {op : Bop} {a b : T} : evS gl r (.bin op a b) = kb (evS gl r a) (k := ⟨fun x => kb (vl? x) (k := ⟨fun d => kb (evS gl r b) (k := ⟨fun y => kb (vl? y) (k := ⟨fun e => kb (binD op d e) (k := ⟨fun o => kg o.isVal (x := ⟨some o⟩)⟩)⟩)⟩)⟩)⟩) := by
  simp only [evS]
  cases evS gl r a with
  | none => rfl
  | some x =>
    cases x <;> try rfl
    rename_i d
    simp only [kb_some, vl_val]
    cases evS gl r b with
    | none => rfl
    | some y =>
      cases y <;> try rfl
      rename_i e
      simp only [kb_some, vl_val]
      cases binD op d e with
      | none => rfl
      | some o => cases h : o.isVal <;> simp [h, kg_true, kg_false]
@[simp] theorem evS_neg {a : T} : evS gl r (.neg a) = kb (evS gl r a) (k := ⟨fun x => kb (it? x) (k := ⟨fun i => some (.val (.int (-i)))⟩)⟩) := by
  simp only [evS]
  cases evS gl r a with
  | none => rfl
  | some x => rcases x with ⟨_ | _ | k | _ | _ | _ | _⟩ | _ | _ | _ | _ <;> rfl
@[simp] theorem evS_idx {a b : T} : evS gl r (.idx a b) = kb (evS gl r a) (k := ⟨fun x => kb (evS gl r b) (k := ⟨fun y => kb (it? y) (k := ⟨fun k => x.child k⟩)⟩)⟩) := by
  simp only [evS]
  cases evS gl r a with
  | none => rfl
  | some x =>
    simp only [kb_some]
    cases evS gl r b with
    | none => rfl
    | some y => rcases y with ⟨_ | _ | k | _ | _ | _ | _⟩ | _ | _ | _ | _ <;> rfl
@[simp] theorem evS_len {a : T} : evS gl r (.bi .len (.cons a .nil)) = kb (evS gl r a) (k := ⟨fun x => biE .len [x]⟩) := by
  simp only [evS]
  cases evS gl r a <;> rfl
@[simp] theorem evS_call (k : Nat) (as : T) : evS gl r (.call k as) = none := (rfl)
@[simp] theorem evS_callk (k : Nat) (as ks : T) (nm : List Str) (pm : List Nat) : evS gl r (.callk k as ks nm pm) = none := (rfl)
@[simp] theorem evS_ife (c a b : T) : evS gl r (.ife c a b) = none := (rfl)
@[simp] theorem evS_slc (a lo hi : T) : evS gl r (.slc a lo hi) = none := (rfl)
@[simp] theorem evS_cmp (op : Cop) (a b : T) : evS gl r (.cmp op a b) = none := (rfl)
@[simp] theorem evS_ino (i : Nat) : evS gl r (.ino i) = none := (rfl)
@[simp] theorem evS_sum (as : T) : evS gl r (.bi .sum as) = none := by cases as with
  | cons x y => cases y <;> rfl
  | _ => rfl
@[simp] theorem evS_abs (as : T) : evS gl r (.bi .abs as) = none := by cases as with
  | cons x y => cases y <;> rfl
  | _ => rfl
@[simp] theorem evS_max2 (as : T) : evS gl r (.bi .max2 as) = none := by cases as with
  | cons x y => cases y <;> rfl
  | _ => rfl
@[simp] theorem evS_min2 (as : T) : evS gl r (.bi .min2 as) = none := by cases as with
  | cons x y => cases y <;> rfl
  | _ => rfl
@[simp] theorem evS_int (as : T) : evS gl r (.bi .int as) = none := by cases as with
  | cons x y => cases y <;> rfl
  | _ => rfl
@[simp] theorem evS_max1 (as : T) : evS gl r (.bi .max1 as) = none := by cases as with
  | cons x y => cases y <;> rfl
  | _ => rfl
@[simp] theorem evS_min1 (as : T) : evS gl r (.bi .min1 as) = none := by cases as with
  | cons x y => cases y <;> rfl
  | _ => rfl
@[simp] theorem evS_divmod (as : T) : evS gl r (.bi .divmod as) = none := by cases as with
  | cons x y => cases y <;> rfl
  | _ => rfl
end
/-! ### walks -/
theorem lcGo_pure {f : D → En → Option (Option O × En)} {r : En} (g : D → Option O) : ∀ {ds : List D}, (∀ d ∈ ds, f d r = some (g d, r)) → lcGo f ds r = some (ds.filterMap g, r)
  | [], _ => rfl
  | d :: ds, h => by
    unfold lcGo
    rw [h d (by simp)]
    simp only
    rw [lcGo_pure g fun x hx => h x (by simp [hx])]
    cases e : g d <;> simp [List.filterMap_cons, e]
theorem lcGo_map {f : D → En → Option (Option O × En)} {r : En} (g : D → O) {ds : List D} (h : ∀ d ∈ ds, f d r = some (some (g d), r)) : lcGo f ds r = some (ds.map g, r) := by
  rw [lcGo_pure (fun d => some (g d)) h, List.filterMap_eq_map']
/-- a comprehension whose turns change what stands: any relation between the turn, the item made -/
theorem lcGo_ex {f : D → En → Option (Option O × En)} (P : En → Prop) (Q : D → O → Prop) : ∀ {ds : List D} {r : En}, P r → (∀ d ∈ ds, ∀ r, P r → ∃ o r1, f d r = some (some o, r1) ∧ P r1 ∧ Q d o) → ∃ os r1, lcGo f ds r = some (os, r1) ∧ P r1 ∧ os.length = ds.length ∧ ∀ (i : Nat) (d : D) (o : O), ds[i]? = some d → os[i]? = some o → Q d o
  | [], r, h, _ => ⟨[], r, rfl, h, rfl, fun i d o e => by simp at e⟩
  | d :: ds, r, h, H => by
    obtain ⟨o, r1, e1, p1, q1⟩ := H d (by simp) r h
    obtain ⟨os, r2, e2, p2, l2, q2⟩ := lcGo_ex P Q (ds := ds) (r := r1) p1 fun x hx => H x (by simp [hx])
    refine ⟨o :: os, r2, ?_, p2, by simp [l2], fun i x y hx hy => ?_⟩
    · unfold lcGo
      rw [e1]
      simp only
      rw [e2]
    · cases i with
      | zero => simp at hx hy; subst hx; subst hy; exact q1
      | succ i => exact q2 i x y (by simpa using hx) (by simpa using hy)
/-- a loop by what holds ahead of each turn -/
theorem forGo_ind {g : G} {f : En → Option (Fl × En)} (I : List D → En → Prop) (Q : Fl × En → Prop) : ∀ {ds : List D} {r : En}, I ds r → (∀ r, I [] r → Q (.nx, r)) →
    (∀ d ds r, I (d :: ds) r → ∃ r1 fl r2, bnd g (.val d) r = some r1 ∧ f r1 = some (fl, r2) ∧ match fl with
      | .nx => I ds r2
      | .ct => I ds r2
      | .bk => Q (.nx, r2)
      | .rt o => Q (.rt o, r2)) → ∃ p, forGo g f ds r = some p ∧ Q p
  | [], r, h, h0, _ => ⟨_, rfl, h0 r h⟩
  | d :: ds, r, h, h0, h1 => by
    obtain ⟨r1, fl, r2, e1, e2, q⟩ := h1 d ds r h
    unfold forGo
    rw [e1]
    simp only
    rw [e2]
    cases fl with
    | nx => exact forGo_ind I Q q h0 h1
    | ct => exact forGo_ind I Q q h0 h1
    | bk => exact ⟨_, rfl, q⟩
    | rt o => exact ⟨_, rfl, q⟩
theorem whlGo_ind {c : En → Option (Bool × En)} {f : En → Option (Fl × En)} (I : Nat → En → Prop) (Q : Fl × En → Prop) (h : ∀ k r, I k r → ∃ b r1, c r = some (b, r1) ∧ match b with
      | false => Q (.nx, r1)
      | true => ∃ fl r2, f r1 = some (fl, r2) ∧ match fl with
        | .nx => ∃ j, j < k ∧ I j r2
        | .ct => ∃ j, j < k ∧ I j r2
        | .bk => Q (.nx, r2)
        | .rt o => Q (.rt o, r2)) : ∀ {n k : Nat} {r : En}, k < n → I k r → ∃ p, whlGo c f n r = some p ∧ Q p
  | 0, _, _, hk, _ => by omega
  | n + 1, k, r, hk, hi => by
    obtain ⟨b, r1, e1, q⟩ := h k r hi
    unfold whlGo
    rw [e1]
    cases b with
    | false => exact ⟨_, rfl, q⟩
    | true =>
      simp only at q ⊢
      obtain ⟨fl, r2, e2, q⟩ := q
      rw [e2]
      cases fl with
      | nx =>
        obtain ⟨j, hj, q⟩ := q
        exact whlGo_ind I Q h (by omega) q
      | ct =>
        obtain ⟨j, hj, q⟩ := q
        exact whlGo_ind I Q h (by omega) q
      | bk => exact ⟨_, rfl, q⟩
      | rt o => exact ⟨_, rfl, q⟩
end Pl

end
section
set_option maxHeartbeats 4000000
/-! Pl2: data. -/
namespace Pl
open PySem L2 Mi
/-! ### kinds -/
mutual
/-- no dict in it -/
def nd : PyData → Bool
  | .list ds => nds ds
  | .tuple ds => nds ds
  | .dict _ => false
  | _ => true
def nds : List PyData → Bool
  | [] => true
  | d :: ds => nd d && nds ds
end
theorem nds_mem : ∀ {ds : List PyData}, nds ds = true → ∀ d ∈ ds, nd d = true
  | [], _, _, h => by simp at h
  | e :: ds, h, d, hd => by
    simp only [nds, Bool.and_eq_true] at h
    rcases List.mem_cons.mp hd with rfl | hd
    · exact h.1
    · exact nds_mem h.2 d hd
theorem nds_all : ∀ {ds : List PyData}, (∀ d ∈ ds, nd d = true) → nds ds = true
  | [], _ => rfl
  | e :: ds, h => by
    simp only [nds, Bool.and_eq_true]
    exact ⟨h e (by simp), nds_all fun d hd => h d (by simp [hd])⟩
def isI : PyData → Bool
  | .int _ => true
  | _ => false
def isT : PyData → Bool
  | .tuple _ => true
  | _ => false
def ty : PyData → String
  | .none => "NoneType"
  | .bool _ => "bool"
  | .int _ => "int"
  | .str _ => "str"
  | .list _ => "list"
  | .tuple _ => "tuple"
  | .dict _ => ""
@[simp] theorem nd_none : nd .none = true := by simp only [nd]
@[simp] theorem nd_int {i : Int} : nd (.int i) = true := by simp only [nd]
@[simp] theorem nd_bool {i : Bool} : nd (.bool i) = true := by simp only [nd]
@[simp] theorem nd_str {i : Str} : nd (.str i) = true := by simp only [nd]
@[simp] theorem nd_tup {ds : List PyData} : nd (.tuple ds) = nds ds := by simp only [nd]
@[simp] theorem nd_lst {ds : List PyData} : nd (.list ds) = nds ds := by simp only [nd]
@[simp] theorem nds_nil : nds [] = true := by simp only [nds]
@[simp] theorem nds_cons {d : PyData} {ds : List PyData} : nds (d :: ds) = (nd d && nds ds) := by simp only [nds]
@[simp] theorem nd_dict {k} : nd (.dict k) = false := by simp only [nd]
@[simp] theorem isI_dict {k} : isI (.dict k) = false := (rfl)
@[simp] theorem isT_dict {k} : isT (.dict k) = false := (rfl)
@[simp] theorem isI_none : isI .none = false := (rfl)
@[simp] theorem isI_int {i : Int} : isI (.int i) = true := (rfl)
@[simp] theorem isI_bool {i : Bool} : isI (.bool i) = false := (rfl)
@[simp] theorem isI_str {i : Str} : isI (.str i) = false := (rfl)
@[simp] theorem isI_tup {i : List PyData} : isI (.tuple i) = false := (rfl)
@[simp] theorem isI_lst {i : List PyData} : isI (.list i) = false := (rfl)
@[simp] theorem isT_none : isT .none = false := (rfl)
@[simp] theorem isT_int {i : Int} : isT (.int i) = false := (rfl)
@[simp] theorem isT_bool {i : Bool} : isT (.bool i) = false := (rfl)
@[simp] theorem isT_str {i : Str} : isT (.str i) = false := (rfl)
@[simp] theorem isT_tup {i : List PyData} : isT (.tuple i) = true := (rfl)
@[simp] theorem isT_lst {i : List PyData} : isT (.list i) = false := (rfl)
@[simp] theorem tyn_none : tyn (.val .none) = some "NoneType" := (rfl)
@[simp] theorem tyn_int {i : Int} : tyn (.val (.int i)) = some "int" := (rfl)
@[simp] theorem tyn_bool {i : Bool} : tyn (.val (.bool i)) = some "bool" := (rfl)
@[simp] theorem tyn_str {i : Str} : tyn (.val (.str i)) = some "str" := (rfl)
@[simp] theorem tyn_tup {i : List PyData} : tyn (.val (.tuple i)) = some "tuple" := (rfl)
@[simp] theorem tyn_lst {i : List PyData} : tyn (.val (.list i)) = some "list" := (rfl)
@[simp] theorem tyn_l {i : List O} : tyn (.lst i) = some "list" := (rfl)
@[simp] theorem kind_ii : isKind "int" "int" = true := by decide
@[simp] theorem kind_ib : isKind "int" "bool" = false := by decide
@[simp] theorem kind_bi : isKind "bool" "int" = true := by decide
@[simp] theorem kind_bb : isKind "bool" "bool" = true := by decide
@[simp] theorem kind_tt : isKind "tuple" "tuple" = true := by decide
@[simp] theorem kind_ll : isKind "list" "list" = true := by decide
@[simp] theorem kind_lt : isKind "list" "tuple" = false := by decide
@[simp] theorem kind_tl : isKind "tuple" "list" = false := by decide
@[simp] theorem kind_it : isKind "int" "tuple" = false := by decide
@[simp] theorem kind_il : isKind "int" "list" = false := by decide
@[simp] theorem kind_bt : isKind "bool" "tuple" = false := by decide
@[simp] theorem kind_bl : isKind "bool" "list" = false := by decide
@[simp] theorem kind_st : isKind "str" "tuple" = false := by decide
@[simp] theorem kind_sl : isKind "str" "list" = false := by decide
@[simp] theorem kind_nt : isKind "NoneType" "tuple" = false := by decide
@[simp] theorem kind_nl : isKind "NoneType" "list" = false := by decide
@[simp] theorem kind_ni : isKind "NoneType" "int" = false := by decide
@[simp] theorem kind_nb : isKind "NoneType" "bool" = false := by decide
@[simp] theorem kind_si : isKind "str" "int" = false := by decide
@[simp] theorem kind_sb : isKind "str" "bool" = false := by decide
@[simp] theorem kind_ss : isKind "str" "str" = true := by decide
@[simp] theorem kind_ti : isKind "tuple" "int" = false := by decide
@[simp] theorem kind_tb : isKind "tuple" "bool" = false := by decide
@[simp] theorem kind_ts : isKind "tuple" "str" = false := by decide
@[simp] theorem kind_li : isKind "list" "int" = false := by decide
@[simp] theorem kind_lb : isKind "list" "bool" = false := by decide
@[simp] theorem kind_ls : isKind "list" "str" = false := by decide
theorem tyn_nd {d : PyData} (h : nd d = true) : tyn (.val d) = some (ty d) := by
  cases d <;> first | rfl | (simp [nd] at h)
/-! ### places in rows -/
@[simp] theorem atI_nat {α : Type} {xs : List α} {k : Nat} : atI xs (k : Int) = xs[k]? := by
  unfold atI ixN
  rw [if_pos (by omega)]
  by_cases h : k < xs.length
  · rw [if_pos (by omega)]; simp
  · rw [if_neg (by omega)]
    simp only [Option.bind_none]
    rw [List.getElem?_eq_none (by omega)]
@[simp] theorem atI_succ {α : Type} {xs : List α} {k : Nat} : atI xs ((k : Int) + 1) = xs[k + 1]? := atI_nat (k := k + 1)
@[simp] theorem atI_zero {α : Type} {x : α} {xs : List α} : atI (x :: xs) 0 = some x := atI_nat (k := 0)
theorem atI_lit {α : Type} {xs : List α} (k : Nat) : atI xs (OfNat.ofNat (k + 1) : Int) = xs[k + 1]? := atI_nat (k := k + 1)
@[simp] theorem atI_one {α : Type} {xs : List α} : atI xs 1 = xs[1]? := atI_nat (k := 1)
@[simp] theorem atI_two {α : Type} {xs : List α} : atI xs 2 = xs[2]? := atI_nat (k := 2)
@[simp] theorem atI_three {α : Type} {xs : List α} : atI xs 3 = xs[3]? := atI_nat (k := 3)
@[simp] theorem atI_four {α : Type} {xs : List α} : atI xs 4 = xs[4]? := atI_nat (k := 4)
theorem atI_last {α : Type} {xs : List α} (h : xs ≠ []) : atI xs (-1) = xs.getLast? := by
  have : 0 < xs.length := List.length_pos_iff.mpr h
  unfold atI ixN
  rw [if_neg (by omega), if_pos (by omega)]
  simp only [Option.bind_some]
  rw [List.getLast?_eq_getElem?]
  congr 1
  omega
@[simp] theorem child_vt {ds : List PyData} {k : Int} : O.child (.val (.tuple ds)) k = (atI ds k).map O.val := (rfl)
@[simp] theorem child_vl {ds : List PyData} {k : Int} : O.child (.val (.list ds)) k = (atI ds k).map O.val := (rfl)
@[simp] theorem child_l {os : List O} {k : Int} : O.child (.lst os) k = atI os k := (rfl)
@[simp] theorem child_t {os : List O} {k : Int} : O.child (.tup os) k = atI os k := (rfl)
@[simp] theorem child_s {ns : List Int} {k : Int} : O.child (.scr ns) k = (atI ns k).map fun i => .val (.int i) := (rfl)
@[simp] theorem its_vl {ds : List PyData} : O.its (.val (.list ds)) = some ds := (rfl)
@[simp] theorem its_vt {ds : List PyData} : O.its (.val (.tuple ds)) = some ds := (rfl)
@[simp] theorem its_l {os : List O} : O.its (.lst os) = vals os := (rfl)
@[simp] theorem its_t {os : List O} : O.its (.tup os) = vals os := (rfl)
/-! ### cuts -/
@[simp] theorem cutL_none {α : Type} {xs : List α} : cutL xs none none = xs := by simp [cutL, HT.sIx]
@[simp] theorem cutL_from {α : Type} {xs : List α} {k : Nat} : cutL xs (some (k : Int)) none = xs.drop k := by
  unfold cutL
  rw [HT.sIx_nat]
  simp only [HT.sIx]
  by_cases h : k ≤ xs.length
  · rw [Nat.min_eq_left h, List.take_of_length_le (by simp)]
  · rw [Nat.min_eq_right (by omega)]
    simp only [Nat.sub_self, List.take_zero]
    rw [List.drop_eq_nil_of_le (by omega)]
@[simp] theorem cutL_to {α : Type} {xs : List α} {k : Nat} : cutL xs none (some (k : Int)) = xs.take k := by
  unfold cutL
  rw [HT.sIx_nat]
  simp only [HT.sIx, List.drop_zero, Nat.sub_zero]
  by_cases h : k ≤ xs.length
  · rw [Nat.min_eq_left h]
  · rw [Nat.min_eq_right (by omega), List.take_of_length_le (by omega), List.take_of_length_le (by omega)]
@[simp] theorem cutL_from1 {α : Type} {xs : List α} : cutL xs (some 1) none = xs.drop 1 := cutL_from (k := 1)
@[simp] theorem cutL_to1 {α : Type} {xs : List α} : cutL xs none (some 1) = xs.take 1 := cutL_to (k := 1)
theorem cutL_but {α : Type} {xs : List α} : cutL xs none (some (-1)) = xs.dropLast := by
  unfold cutL
  have : HT.sIx xs.length xs.length (some (-1)) = xs.length - 1 := by
    show (if (-1 : Int) < 0 then (-1 + (xs.length : Int)).toNat else min (-1 : Int).toNat xs.length) = _
    rw [if_pos (by decide)]
    omega
  rw [this]
  simp [HT.sIx, List.dropLast_eq_take]
theorem cutL_end {α : Type} {xs : List α} : cutL xs (some (-1)) none = xs.drop (xs.length - 1) := by
  unfold cutL
  have : HT.sIx xs.length 0 (some (-1)) = xs.length - 1 := by
    show (if (-1 : Int) < 0 then (-1 + (xs.length : Int)).toNat else min (-1 : Int).toNat xs.length) = _
    rw [if_pos (by decide)]
    omega
  rw [this]
  simp only [HT.sIx]
  rw [List.take_of_length_le (by simp)]
/-! ### rows of ints -/
@[simp] theorem intL_map : ∀ xs : List Int, intL (xs.map PyData.int) = some xs
  | [] => rfl
  | x :: xs => by simp [intL, intL_map xs]
@[simp] theorem intL_nil : intL [] = some [] := (rfl)
@[simp] theorem intL_cons {i : Int} {ds : List PyData} : intL (.int i :: ds) = (intL ds).map (i :: ·) := (rfl)
@[simp] theorem boolL_map : ∀ xs : List Bool, boolL (xs.map PyData.bool) = some xs
  | [] => rfl
  | x :: xs => by simp [boolL, boolL_map xs]
theorem intL_some : ∀ {ds : List PyData} {xs : List Int}, intL ds = some xs → ds = xs.map PyData.int
  | [], xs, h => by cases h; rfl
  | d :: ds, xs, h => by
    cases d <;> simp only [intL, Option.map_eq_some_iff] at h <;> try (cases h; done)
    obtain ⟨l, e, rfl⟩ := h
    rw [intL_some e]; rfl
theorem intL_isI : ∀ {ds : List PyData}, ds.all isI = true → ∃ xs : List Int, ds = xs.map PyData.int
  | [], _ => ⟨[], rfl⟩
  | d :: ds, h => by
    simp only [List.all_cons, Bool.and_eq_true] at h
    obtain ⟨xs, rfl⟩ := intL_isI h.2
    cases d <;> first | exact ⟨_ :: xs, rfl⟩ | exact absurd h.1 (by simp [isI])
@[simp] theorem isI_all (xs : List Int) : (xs.map PyData.int).all isI = true := by simp [isI]
@[simp] theorem nds_ints (xs : List Int) : nds (xs.map PyData.int) = true := nds_all fun d hd => by
  obtain ⟨i, _, rfl⟩ := List.mem_map.mp hd
  rfl
@[simp] theorem ki_same {β : Type} {c : Bool} {x : β} : ki c (x := ⟨x⟩) (y := ⟨x⟩) = x := by cases c <;> rfl
@[simp] theorem inos_nil : inos .nil = [] := (rfl)
@[simp] theorem inos_i {i : Nat} {s : T} : inos (.cons (.ino i) s) = some i :: inos s := (rfl)
@[simp] theorem moveIn_nil {r : En} : moveIn [] [] r = some ([], r) := (rfl)
@[simp] theorem moveIn_n {ns : List (Option Nat)} {o : O} {os : List O} {r : En} : moveIn (none :: ns) (o :: os) r = kb (moveIn ns os r) (k := ⟨fun p => some (o :: p.1, p.2)⟩) := by
  simp only [moveIn]; cases moveIn ns os r <;> rfl
@[simp] theorem moveIn_s {ns : List (Option Nat)} {i : Nat} {o : O} {os : List O} {r : En} : moveIn (some i :: ns) (o :: os) r = kb (ge r i) (k := ⟨fun x => kb (moveIn ns os (r.set i none)) (k := ⟨fun p => some (x :: p.1, p.2)⟩)⟩) := by
  simp only [moveIn]
  cases ge r i with
  | none => rfl
  | some x =>
    simp only [kb_some]
    cases moveIn ns os (r.set i none) <;> rfl
@[simp] theorem moveOut_nil {r : En} : moveOut [] [] r = some r := (rfl)
@[simp] theorem moveOut_n {ns : List (Option Nat)} {os : List (Option O)} {r : En} : moveOut (none :: ns) (none :: os) r = moveOut ns os r := (rfl)
@[simp] theorem moveOut_s {ns : List (Option Nat)} {i : Nat} {o : O} {os : List (Option O)} {r : En} : moveOut (some i :: ns) (some o :: os) r = moveOut ns os (r.set i (some o)) := (rfl)
@[simp] theorem wip_nil {r : En} : wip r [] = r := (rfl)
@[simp] theorem wip_cons {r : En} {v : Nat} {vs : List Nat} : wip r (v :: vs) = (wip r vs).set v none := (rfl)
@[simp] theorem back_nil {r0 r : En} : back r0 [] r = r := (rfl)
@[simp] theorem back_cons {r0 r : En} {v : Nat} {vs : List Nat} : back r0 (v :: vs) r = back r0 vs (r.set v (r0[v]?).join) := (rfl)
/-! ### parts of things that are owned -/
@[simp] theorem toD_val {d : PyData} : O.toD (.val d) = some d := by simp only [O.toD]
@[simp] theorem toDs_nil : toDs [] = some [] := by simp only [toDs]
@[simp] theorem toDs_cons {o : O} {os : List O} : toDs (o :: os) = kb o.toD (k := ⟨fun d => kb (toDs os) (k := ⟨fun ds => some (d :: ds)⟩)⟩) := by
  simp only [toDs]
  cases o.toD with
  | none => rfl
  | some d => cases toDs os <;> rfl
@[simp] theorem toDs_map : ∀ ds : List PyData, toDs (ds.map O.val) = some ds
  | [] => toDs_nil
  | d :: ds => by rw [List.map_cons, toDs_cons, toDs_map ds]; rfl
@[simp] theorem toD_lst {os : List O} : O.toD (.lst os) = (toDs os).map PyData.list := by simp only [O.toD]
@[simp] theorem toD_tup {os : List O} : O.toD (.tup os) = (toDs os).map PyData.tuple := by simp only [O.toD]
@[simp] theorem toDs_mapf {α : Type} {f : α → PyData} {xs : List α} : toDs (xs.map fun x => O.val (f x)) = some (xs.map f) := by
  have := toDs_map (xs.map f)
  rwa [List.map_map] at this
theorem fz_of {o : O} {d : PyData} (h : o.toD = some d) : fz o = .val d := by unfold fz; rw [h]
@[simp] theorem fz_lst {os : List O} : fz (.lst os) = match toDs os with | some ds => .val (.list ds) | none => .lst os := by
  unfold fz; simp only [O.toD]; cases toDs os <;> rfl
@[simp] theorem fz_tup {os : List O} : fz (.tup os) = match toDs os with | some ds => .val (.tuple ds) | none => .tup os := by
  unfold fz; simp only [O.toD]; cases toDs os <;> rfl
/-! ### operators -/
@[simp] theorem iv_eq {i : Int} : iv i = some (.val (.int i)) := (rfl)
@[simp] theorem binD_add {i j : Int} : binD .add (.int i) (.int j) = some (.val (.int (i + j))) := (rfl)
@[simp] theorem binD_sub {i j : Int} : binD .sub (.int i) (.int j) = some (.val (.int (i - j))) := (rfl)
theorem mulOk_l {i j : Int} (h1 : -(2 ^ 64) < i) (h2 : i < 2 ^ 64) : mulOk i j = true := by
  unfold mulOk; rw [decide_eq_true h1, decide_eq_true h2]; rfl
theorem mulOk_r {i j : Int} (h1 : -(2 ^ 64) < j) (h2 : j < 2 ^ 64) : mulOk i j = true := by
  unfold mulOk; rw [decide_eq_true h1, decide_eq_true h2, Bool.and_self, Bool.or_true]
theorem binD_mul {i j : Int} (h : mulOk i j = true) : binD .mul (.int i) (.int j) = some (.val (.int (i * j))) := by
  show (if mulOk i j = true then iv (i * j) else none) = _
  rw [if_pos h]; rfl
theorem binD_mod {i j : Int} (h : 0 < j) : binD .mod (.int i) (.int j) = some (.val (.int (i % j))) := by
  show (if 0 < j then iv (i % j) else none) = _
  rw [if_pos h]; rfl
theorem binD_fdiv {i j : Int} (h : 0 < j) (h2 : j < 1073741824) : binD .fdiv (.int i) (.int j) = some (.val (.int (i / j))) := by
  show (if 0 < j ∧ j < 1073741824 then iv (i / j) else none) = _
  rw [if_pos ⟨h, h2⟩]; rfl
theorem binD_tup {xs ys : List PyData} (h : (xs ++ ys).length ≤ sizeLine) : binD .add (.tuple xs) (.tuple ys) = some (.val (.tuple (xs ++ ys))) := by
  show (if (xs ++ ys).length ≤ sizeLine then _ else none) = _
  rw [if_pos h]
theorem binD_lst {xs ys : List PyData} (h : (xs ++ ys).length ≤ sizeLine) : binD .add (.list xs) (.list ys) = some (.lst ((xs ++ ys).map O.val)) := by
  show (if (xs ++ ys).length ≤ sizeLine then _ else none) = _
  rw [if_pos h]
theorem binD_rep {xs : List PyData} {k : Nat} (h0 : k < 2 ^ 60) (h : (List.replicate k xs).flatten.length ≤ sizeLine) : binD .mul (.list xs) (.int k) = some (.lst ((List.replicate k xs).flatten.map O.val)) := by
  have e : ∀ i : Int, binD .mul (.list xs) (.int i) = if -(2 ^ 63) ≤ i ∧ i < 2 ^ 63 then lstv (List.replicate i.toNat xs).flatten else none := fun _ => rfl
  rw [e, if_pos ⟨by omega, by omega⟩, Int.toNat_natCast]
  unfold lstv
  rw [if_pos h]
@[simp] theorem augD_add {i j : Int} : augD .add (.int i) (.int j) = some (.val (.int (i + j))) := (rfl)
@[simp] theorem augD_sub {i j : Int} : augD .sub (.int i) (.int j) = some (.val (.int (i - j))) := (rfl)
/-! ### comparisons -/
@[simp] theorem cmpD_lt {i j : Int} : cmpD .lt (.int i) (.int j) = some (decide (i < j)) := (rfl)
@[simp] theorem cmpD_le {i j : Int} : cmpD .le (.int i) (.int j) = some (decide (i ≤ j)) := (rfl)
@[simp] theorem cmpD_gt {i j : Int} : cmpD .gt (.int i) (.int j) = some (decide (j < i)) := (rfl)
@[simp] theorem cmpD_ge {i j : Int} : cmpD .ge (.int i) (.int j) = some (decide (j ≤ i)) := (rfl)
theorem beq_dec {α : Type} [BEq α] [LawfulBEq α] [DecidableEq α] (i j : α) : (i == j) = decide (i = j) := by
  by_cases h : i = j
  · subst h; simp
  · rw [decide_eq_false h]; exact beq_eq_false_iff_ne.mpr h
@[simp] theorem cmpD_eqi {i j : Int} : cmpD .eq (.int i) (.int j) = some (decide (i = j)) := by
  show some (PyData.eqv (.int i) (.int j)) = _
  simp only [PyData.eqv, beq_dec]
@[simp] theorem cmpD_nei {i j : Int} : cmpD .ne (.int i) (.int j) = some (!decide (i = j)) := by
  show some (!PyData.eqv (.int i) (.int j)) = _
  simp only [PyData.eqv, beq_dec]
@[simp] theorem cmpD_eqb {i j : Bool} : cmpD .eq (.bool i) (.bool j) = some (decide (i = j)) := by
  show some (PyData.eqv (.bool i) (.bool j)) = _
  simp only [PyData.eqv, beq_dec]
@[simp] theorem cmpD_neb {i j : Bool} : cmpD .ne (.bool i) (.bool j) = some (!decide (i = j)) := by
  show some (!PyData.eqv (.bool i) (.bool j)) = _
  simp only [PyData.eqv, beq_dec]
@[simp] theorem cmpD_eqs {i j : Str} : cmpD .eq (.str i) (.str j) = some (decide (i = j)) := by
  show some (PyData.eqv (.str i) (.str j)) = _
  simp only [PyData.eqv, beq_dec]
@[simp] theorem cmpD_nes {i j : Str} : cmpD .ne (.str i) (.str j) = some (!decide (i = j)) := by
  show some (!PyData.eqv (.str i) (.str j)) = _
  simp only [PyData.eqv, beq_dec]
@[simp] theorem cmpD_is {d : PyData} : cmpD .is_ d .none = some (isNone d) := by cases d <;> rfl
@[simp] theorem cmpD_isnt {d : PyData} : cmpD .isnt d .none = some (!isNone d) := by cases d <;> rfl
@[simp] theorem isNone_int {i : Int} : isNone (.int i) = false := (rfl)
@[simp] theorem isNone_none : isNone .none = true := (rfl)
@[simp] theorem isNone_tup {ds : List PyData} : isNone (.tuple ds) = false := (rfl)
/-! ### built-ins -/
@[simp] theorem biE_lenl {os : List O} : biE .len [.lst os] = some (.val (.int os.length)) := (rfl)
@[simp] theorem biE_lent {os : List O} : biE .len [.tup os] = some (.val (.int os.length)) := (rfl)
@[simp] theorem biE_lens {ns : List Int} : biE .len [.scr ns] = some (.val (.int ns.length)) := (rfl)
@[simp] theorem biE_lenvl {ds : List PyData} : biE .len [.val (.list ds)] = some (.val (.int ds.length)) := (rfl)
@[simp] theorem biE_lenvt {ds : List PyData} : biE .len [.val (.tuple ds)] = some (.val (.int ds.length)) := (rfl)
@[simp] theorem biE_abs {i : Int} : biE .abs [.val (.int i)] = some (.val (.int (if i < 0 then -i else i))) := (rfl)
@[simp] theorem biE_max {i j : Int} : biE .max2 [.val (.int i), .val (.int j)] = some (.val (.int (max i j))) := by
  show some (O.val (.int (if j > i then j else i))) = _
  congr 3
  split <;> omega
@[simp] theorem biE_min {i j : Int} : biE .min2 [.val (.int i), .val (.int j)] = some (.val (.int (min i j))) := by
  show some (O.val (.int (if j < i then j else i))) = _
  congr 3
  split <;> omega
theorem biE_divmod {i j : Int} (h : 0 < j ∧ j < 1073741824) : biE .divmod [.val (.int i), .val (.int j)] = some (.val (.tuple [.int (i / j), .int (i % j)])) := by
  show (if 0 < j ∧ j < 1073741824 then _ else none) = _
  rw [if_pos h]
@[simp] theorem biE_int {i : Int} : biE .int [.val (.int i)] = some (.val (.int i)) := (rfl)
@[simp] theorem biE_intb {b : Bool} : biE .int [.val (.bool b)] = some (.val (.int (if b then 1 else 0))) := (rfl)
theorem biE_suml {os : List O} {ds : List PyData} {ns : List Int} (h : vals os = some ds) (h2 : intL ds = some ns) : biE .sum [.lst os] = some (.val (.int ns.sum)) := by
  show (match O.sh (.lst os) with
    | some d => biD .sum [d]
    | none => none) = _
  rw [sh_lst, h]
  show (intL ds).map _ = _
  rw [h2]; rfl
@[simp] theorem biE_sumi {ns : List Int} : biE .sum [.lst ((ns.map PyData.int).map O.val)] = some (.val (.int ns.sum)) := biE_suml (vals_map _) (intL_map _)
@[simp] theorem biE_sumt {ns : List Int} : biE .sum [.val (.tuple (ns.map PyData.int))] = some (.val (.int ns.sum)) := by
  show (intL (ns.map PyData.int)).map _ = _
  rw [intL_map]; rfl
theorem biE_all {os : List O} {ds : List PyData} {bs : List Bool} (h : vals os = some ds) (h2 : boolL ds = some bs) : biE .all [.lst os] = some (.val (.bool (bs.all id))) := by
  show (match O.sh (.lst os) with
    | some d => biD .all [d]
    | none => none) = _
  rw [sh_lst, h]
  show (boolL ds).map _ = _
  rw [h2]; rfl
theorem biE_any {os : List O} {ds : List PyData} {bs : List Bool} (h : vals os = some ds) (h2 : boolL ds = some bs) : biE .any [.lst os] = some (.val (.bool (bs.any id))) := by
  show (match O.sh (.lst os) with
    | some d => biD .any [d]
    | none => none) = _
  rw [sh_lst, h]
  show (boolL ds).map _ = _
  rw [h2]; rfl
@[simp] theorem boolL_mapf {α : Type} (f : α → Bool) : ∀ xs : List α, boolL (xs.map fun x => PyData.bool (f x)) = some (xs.map f)
  | [] => rfl
  | x :: xs => by simp [boolL, boolL_mapf f xs]
@[simp] theorem intL_mapf {α : Type} (f : α → Int) : ∀ xs : List α, intL (xs.map fun x => PyData.int (f x)) = some (xs.map f)
  | [] => rfl
  | x :: xs => by simp [intL, intL_mapf f xs]
@[simp] theorem vals_mapf {α : Type} (f : α → PyData) : ∀ xs : List α, vals (xs.map fun x => O.val (f x)) = some (xs.map f)
  | [] => rfl
  | x :: xs => by simp [vals, vals_mapf f xs]
@[simp] theorem biE_allf {α : Type} (f : α → Bool) (xs : List α) : biE .all [.lst (xs.map fun x => O.val (.bool (f x)))] = some (.val (.bool (xs.all f))) := by
  rw [biE_all (vals_mapf (fun x => PyData.bool (f x)) xs) (boolL_mapf f xs)]
  simp
@[simp] theorem biE_anyf {α : Type} (f : α → Bool) (xs : List α) : biE .any [.lst (xs.map fun x => O.val (.bool (f x)))] = some (.val (.bool (xs.any f))) := by
  rw [biE_any (vals_mapf (fun x => PyData.bool (f x)) xs) (boolL_mapf f xs)]
  simp
@[simp] theorem biE_sumf {α : Type} (f : α → Int) (xs : List α) : biE .sum [.lst (xs.map fun x => O.val (.int (f x)))] = some (.val (.int (xs.map f).sum)) := by
  rw [biE_suml (vals_mapf (fun x => PyData.int (f x)) xs) (intL_mapf f xs)]
theorem biE_listt {ds : List PyData} : biE .list [.val (.tuple ds)] = some (.lst (ds.map O.val)) := rfl
@[simp] theorem biE_tupl {os : List O} : biE .tuple [.lst os] = (vals os).map fun ds => .val (.tuple ds) := by
  show (match O.sh (.lst os) with
    | some d => biD .tuple [d]
    | none => none) = _
  rw [sh_lst]
  cases vals os <;> rfl
/-! ### rows -/
@[simp] theorem rngI_one {n : Nat} : rngI 0 (n : Int) 1 = (List.range n).map fun i => PyData.int (i : Nat) := by
  unfold rngI
  rw [if_pos rfl]
  simp
theorem rngE_nat {n : Nat} (h : n < 2 ^ 60) : rngE [.val (.int (n : Int))] = some ((List.range n).map fun i => PyData.int (i : Nat)) := by
  have e : ∀ i : Int, rngE [.val (.int i)] = if small i then some (rngI 0 i 1) else none := fun _ => rfl
  have q : small (n : Int) = true := by
    unfold small
    rw [decide_eq_true (by omega), decide_eq_true (by omega)]; rfl
  rw [e, q, if_pos rfl, rngI_one]
theorem zipE_2 {a b : O} {x y : List PyData} (h1 : a.its = some x) (h2 : b.its = some y) : zipE [a, b] = some (zip2 x y) := by
  unfold zipE; simp only [h1, h2]
theorem zipE_3 {a b c : O} {x y z : List PyData} (h1 : a.its = some x) (h2 : b.its = some y) (h3 : c.its = some z) : zipE [a, b, c] = some (zip3 x y z) := by
  unfold zipE; simp only [h1, h2, h3]
/-! ### owned places -/
@[simp] theorem placeL_var {gl : List (Str × D)} {i : Nat} {r : En} : placeL gl (.var i) r = kb (ge r i) (k := ⟨fun o => kb (lstF o) (k := ⟨fun _ => some (i, [])⟩)⟩) := by
  unfold placeL place
  simp only [path, steps, Option.map_some]
  cases ge r i with
  | none => rfl
  | some o =>
    simp only [kb_some, O.updAt]
    cases lstF o <;> rfl
@[simp] theorem lstF_lst {os : List O} : lstF (.lst os) = some (.lst os) := (rfl)
@[simp] theorem updAt_nil {f : O → Option O} {o : O} : O.updAt f [] o = f o := by simp only [O.updAt]
@[simp] theorem placeU_eq {f : O → Option O} {i : Nat} {ks : List Int} {r : En} : placeU f i ks r = kb (ge r i) (k := ⟨fun root => kb (O.updAt f ks root) (k := ⟨fun o => some (r.set i (some o))⟩)⟩) := by
  unfold placeU
  cases ge r i with
  | none => rfl
  | some o =>
    simp only [kb_some]
    cases O.updAt f ks o <;> rfl
@[simp] theorem setAt_eq {r : En} {p : Nat × List Int} {k : Int} {v : O} : setAt r p k v = kb (ge r p.1) (k := ⟨fun o => kb (O.updAt (setIx k v) p.2 o) (k := ⟨fun o' => some (r.set p.1 (some o'))⟩)⟩) := by
  unfold setAt
  cases ge r p.1 with
  | none => rfl
  | some o =>
    simp only [kb_some]
    cases O.updAt (setIx k v) p.2 o <;> rfl
@[simp] theorem getAt_eq {r : En} {p : Nat × List Int} {k : Int} : Mi.getAt r p k = kb (ge r p.1) (k := ⟨fun o => kb (O.getAt p.2 o) (k := ⟨fun o => kb (lstF o) (k := ⟨fun o => o.child k⟩)⟩)⟩) := by
  unfold Mi.getAt
  cases ge r p.1 with
  | none => rfl
  | some o =>
    simp only [kb_some]
    cases O.getAt p.2 o with
    | none => rfl
    | some o => cases o <;> rfl
@[simp] theorem getAt_nil {o : O} : O.getAt [] o = some o := by simp only [O.getAt]
@[simp] theorem setIx_lst {k : Int} {v : O} {os : List O} : setIx k v (.lst os) = kb (ixN os.length k) (k := ⟨fun j => some (.lst (os.set j v))⟩) := by
  show (ixN os.length k).map (fun j => O.lst (os.set j v)) = _
  cases ixN os.length k <;> rfl
@[simp] theorem appF_lst {v : O} {os : List O} : appF v (.lst os) = kg (decide (os.length < sizeLine)) (x := ⟨some (.lst (os ++ [v]))⟩) := by
  unfold appF
  by_cases h : os.length < sizeLine <;> simp [h, kg_true, kg_false]
@[simp] theorem extF_lst {ds : List PyData} {os : List O} : extF ds (.lst os) = kg (decide (os.length + ds.length ≤ sizeLine)) (x := ⟨some (.lst (os ++ ds.map O.val))⟩) := by
  unfold extF
  by_cases h : os.length + ds.length ≤ sizeLine <;> simp [h, kg_true, kg_false]
theorem ixN_nat {n k : Nat} (h : k < n) : ixN n (k : Int) = some k := by
  unfold ixN
  rw [if_pos (by omega), if_pos (by omega), Int.toNat_natCast]
@[simp] theorem ixN_20 : ixN 2 0 = some 0 := by decide
@[simp] theorem ixN_21 : ixN 2 1 = some 1 := by decide
theorem ixN_last {n : Nat} (h : 0 < n) : ixN n (-1) = some (n - 1) := by
  unfold ixN
  rw [if_neg (by omega), if_pos (by omega)]
  congr 1
  omega
@[simp] theorem cutO_vt {lo hi : Option Int} {ds : List PyData} : cutO lo hi (.val (.tuple ds)) = some (.val (.tuple (cutL ds lo hi))) := (rfl)
@[simp] theorem cutO_vl {lo hi : Option Int} {ds : List PyData} : cutO lo hi (.val (.list ds)) = some (.lst ((cutL ds lo hi).map O.val)) := (rfl)
@[simp] theorem cutO_l {lo hi : Option Int} {os : List O} : cutO lo hi (.lst os) = (vals os).map fun ds => .lst ((cutL ds lo hi).map O.val) := (rfl)
@[simp] theorem cutO_s {lo hi : Option Int} {ns : List Int} : cutO lo hi (.scr ns) = some (.lst ((cutL ns lo hi).map fun i => .val (.int i))) := (rfl)
@[simp] theorem revO_t {ds : List PyData} : revO (.val (.tuple ds)) = some (.val (.tuple ds.reverse)) := (rfl)
@[simp] theorem revO_l {os : List O} : revO (.lst os) = (vals os).map fun ds => .lst (ds.reverse.map O.val) := (rfl)
theorem rngE_int {i : Int} (h0 : 0 ≤ i) (h : i < 2 ^ 60) : rngE [.val (.int i)] = some ((List.range i.toNat).map fun i => PyData.int (i : Nat)) := by
  have e : i = (i.toNat : Int) := by omega
  rw [e]
  simp only [Int.toNat_natCast]
  exact rngE_nat (by omega)
@[simp] theorem biE_sumc {ns : List Int} : biE .sum [.lst (ns.map fun x => O.val (.int x))] = some (.val (.int ns.sum)) := by
  have := biE_sumf (fun x : Int => x) ns
  simpa using this
@[simp] theorem biE_listl {os : List O} : biE .list [.lst os] = (vals os).map fun ds => .lst (ds.map O.val) := by
  show (match O.sh (.lst os) with
    | some d => biD .list [d]
    | none => none) = _
  rw [sh_lst]
  cases vals os <;> rfl
@[simp] theorem biE_listvt {ds : List PyData} : biE .list [.val (.tuple ds)] = some (.lst (ds.map O.val)) := (rfl)
@[simp] theorem biE_listvl {ds : List PyData} : biE .list [.val (.list ds)] = some (.lst (ds.map O.val)) := (rfl)
@[simp] theorem biE_tupvt {ds : List PyData} : biE .tuple [.val (.tuple ds)] = some (.val (.tuple ds)) := (rfl)
@[simp] theorem biE_tupvl {ds : List PyData} : biE .tuple [.val (.list ds)] = some (.val (.tuple ds)) := (rfl)
@[simp] theorem biE_sums {ns : List Int} : biE .sum [.scr ns] = some (.val (.int ns.sum)) := (rfl)
@[simp] theorem biE_sumvl {ns : List Int} : biE .sum [.val (.list (ns.map PyData.int))] = some (.val (.int ns.sum)) := by
  show (intL (ns.map PyData.int)).map _ = _
  rw [intL_map]; rfl
@[simp] theorem sz_0 : (0 ≤ sizeLine) = True := by decide
@[simp] theorem sx_0 : (0 < sizeLine) = True := by decide
@[simp] theorem sz_1 : (1 ≤ sizeLine) = True := by decide
@[simp] theorem sx_1 : (1 < sizeLine) = True := by decide
@[simp] theorem sz_2 : (2 ≤ sizeLine) = True := by decide
@[simp] theorem sx_2 : (2 < sizeLine) = True := by decide
@[simp] theorem sz_3 : (3 ≤ sizeLine) = True := by decide
@[simp] theorem sx_3 : (3 < sizeLine) = True := by decide
@[simp] theorem sz_4 : (4 ≤ sizeLine) = True := by decide
@[simp] theorem sx_4 : (4 < sizeLine) = True := by decide
@[simp] theorem sz_5 : (5 ≤ sizeLine) = True := by decide
@[simp] theorem sx_5 : (5 < sizeLine) = True := by decide
@[simp] theorem sz_6 : (6 ≤ sizeLine) = True := by decide
@[simp] theorem sx_6 : (6 < sizeLine) = True := by decide
@[simp] theorem sz_7 : (7 ≤ sizeLine) = True := by decide
@[simp] theorem sx_7 : (7 < sizeLine) = True := by decide
@[simp] theorem sz_8 : (8 ≤ sizeLine) = True := by decide
@[simp] theorem sx_8 : (8 < sizeLine) = True := by decide
@[simp] theorem sz_9 : (9 ≤ sizeLine) = True := by decide
@[simp] theorem sx_9 : (9 < sizeLine) = True := by decide
@[simp] theorem sz_10 : (10 ≤ sizeLine) = True := by decide
@[simp] theorem sx_10 : (10 < sizeLine) = True := by decide
@[simp] theorem sz_11 : (11 ≤ sizeLine) = True := by decide
@[simp] theorem sx_11 : (11 < sizeLine) = True := by decide
@[simp] theorem sz_12 : (12 ≤ sizeLine) = True := by decide
@[simp] theorem sx_12 : (12 < sizeLine) = True := by decide
@[simp] theorem sz_13 : (13 ≤ sizeLine) = True := by decide
@[simp] theorem sx_13 : (13 < sizeLine) = True := by decide
@[simp] theorem sz_14 : (14 ≤ sizeLine) = True := by decide
@[simp] theorem sx_14 : (14 < sizeLine) = True := by decide
@[simp] theorem sz_15 : (15 ≤ sizeLine) = True := by decide
@[simp] theorem sx_15 : (15 < sizeLine) = True := by decide
@[simp] theorem sz_16 : (16 ≤ sizeLine) = True := by decide
@[simp] theorem sx_16 : (16 < sizeLine) = True := by decide
@[simp] theorem sz_17 : (17 ≤ sizeLine) = True := by decide
@[simp] theorem sx_17 : (17 < sizeLine) = True := by decide
@[simp] theorem sz_18 : (18 ≤ sizeLine) = True := by decide
@[simp] theorem sx_18 : (18 < sizeLine) = True := by decide
@[simp] theorem sz_19 : (19 ≤ sizeLine) = True := by decide
@[simp] theorem sx_19 : (19 < sizeLine) = True := by decide
@[simp] theorem sz_20 : (20 ≤ sizeLine) = True := by decide
@[simp] theorem sx_20 : (20 < sizeLine) = True := by decide
@[simp] theorem sz_21 : (21 ≤ sizeLine) = True := by decide
@[simp] theorem sx_21 : (21 < sizeLine) = True := by decide
@[simp] theorem sz_22 : (22 ≤ sizeLine) = True := by decide
@[simp] theorem sx_22 : (22 < sizeLine) = True := by decide
@[simp] theorem sz_23 : (23 ≤ sizeLine) = True := by decide
@[simp] theorem sx_23 : (23 < sizeLine) = True := by decide
@[simp] theorem sz_24 : (24 ≤ sizeLine) = True := by decide
@[simp] theorem sx_24 : (24 < sizeLine) = True := by decide
@[simp] theorem biE_sumo {ns : List Int} : biE .sum [.lst (ns.map (O.val ∘ PyData.int))] = some (.val (.int ns.sum)) := by
  have := biE_sumi (ns := ns)
  rwa [List.map_map] at this
theorem sum_bd {B : Nat} : ∀ {xs : List Int}, (∀ x ∈ xs, x.natAbs ≤ B) → xs.sum.natAbs ≤ xs.length * B
  | [], _ => by simp
  | x :: xs, h => by
    have h1 := h x (by simp)
    have h2 := sum_bd (xs := xs) fun y hy => h y (by simp [hy])
    rw [List.sum_cons, List.length_cons, Nat.add_mul]
    omega
@[simp] theorem cutL_from_succ {α : Type} {xs : List α} {k : Nat} : cutL xs (some ((k : Int) + 1)) none = xs.drop (k + 1) := cutL_from (k := k + 1)
theorem biE_str {i : Int} (h : i.natAbs.log2 < 1920) : biE .str [.val (.int i)] = some (.val (.str (Str.ofString (toString i)))) := by
  show (if i.natAbs.log2 < 1920 then some (O.val (.str (toString i))) else none) = _
  rw [if_pos h]
end Pl

end
section
set_option maxHeartbeats 4000000
/-! Pl3: walks over rows of any kind. -/
namespace Pl
open PySem L2 Mi
section
variable {α σ : Type} {f : D → En → Option (Option O × En)} {r : En} {enc : α → D}
@[simp] theorem lcGo_nil : lcGo f [] r = some ([], r) := (rfl)
def oc : Option O → List O → List O
  | some o, os => o :: os
  | none, os => os
@[simp] theorem oc_some {o : O} {os : List O} : oc (some o) os = o :: os := (rfl)
@[simp] theorem oc_none {os : List O} : oc none os = os := (rfl)
theorem lcGo_cons {d : D} {ds : List D} : lcGo f (d :: ds) r = kb (f d r) (k := ⟨fun p => kb (lcGo f ds p.2) (k := ⟨fun q => some (oc p.1 q.1, q.2)⟩)⟩) := by
  simp only [lcGo]
  cases f d r with
  | none => rfl
  | some p =>
    obtain ⟨o, r1⟩ := p
    simp only [kb_some]
    cases lcGo f ds r1 with
    | none => rfl
    | some q => cases o <;> rfl
theorem lcGo_enc (g : α → O) : ∀ {ys : List α}, (∀ y ∈ ys, f (enc y) r = some (some (g y), r)) → lcGo f (ys.map enc) r = some (ys.map g, r)
  | [], _ => rfl
  | y :: ys, h => by
    rw [List.map_cons, lcGo_cons, h y (by simp)]
    simp only [kb_some]
    rw [lcGo_enc g (ys := ys) fun x hx => h x (by simp [hx])]
    rfl
theorem lcGo_filt (p : α → Bool) (g : α → O) : ∀ {ys : List α}, (∀ y ∈ ys, f (enc y) r = some (ki (p y) (x := ⟨some (g y)⟩) (y := ⟨none⟩), r)) → lcGo f (ys.map enc) r = some ((ys.filter p).map g, r)
  | [], _ => rfl
  | y :: ys, h => by
    rw [List.map_cons, lcGo_cons, h y (by simp)]
    simp only [kb_some]
    rw [lcGo_filt p g (ys := ys) fun x hx => h x (by simp [hx])]
    rw [List.filter_cons]
    cases p y <;> rfl
/-- with a state that the turns hand on -/
theorem lcGo_st (env : σ → En → Prop) (R : σ → List O → σ → Prop) (h0 : ∀ s, R s [] s) : ∀ {ys : List α} {s : σ} {r : En}, env s r →
    (∀ y ∈ ys, ∀ s r, env s r → ∃ o s1 r1, f (enc y) r = some (some o, r1) ∧ env s1 r1 ∧ ∀ os s2, R s1 os s2 → R s (o :: os) s2) → ∃ os s1 r1, lcGo f (ys.map enc) r = some (os, r1) ∧ env s1 r1 ∧ os.length = ys.length ∧ R s os s1
  | [], s, r, h, _ => ⟨[], s, r, rfl, h, rfl, h0 s⟩
  | y :: ys, s, r, h, H => by
    obtain ⟨o, s1, r1, e1, p1, q1⟩ := H y (by simp) s r h
    obtain ⟨os, s2, r2, e2, p2, l2, q2⟩ := lcGo_st env R h0 (ys := ys) p1 fun x hx => H x (by simp [hx])
    refine ⟨o :: os, s2, r2, ?_, p2, by simp [l2], q1 os s2 q2⟩
    rw [List.map_cons, lcGo_cons, e1]
    simp only [kb_some]
    rw [e2]
    rfl
end
section
variable {α σ : Type} {g : G} {f : En → Option (Fl × En)} {r : En} {enc : α → D}
def fsK (x : Option (Fl × En)) [k : Ks] : Option (Fl × En) := match x with
  | some (.nx, r) => k.f r
  | some (.ct, r) => k.f r
  | some (.bk, r) => some (.nx, r)
  | some (.rt o, r) => some (.rt o, r)
  | none => none
@[simp] theorem fsK_nx {r : En} {k : En → Option (Fl × En)} : fsK (some (.nx, r)) (k := ⟨k⟩) = k r := (rfl)
@[simp] theorem fsK_rt {r : En} {o : O} {k : Ks} : fsK (some (.rt o, r)) (k := k) = some (.rt o, r) := (rfl)
@[simp] theorem forGo_nil : forGo g f [] r = some (.nx, r) := (rfl)
theorem forGo_cons {d : D} {ds : List D} : forGo g f (d :: ds) r = fsK (kb (bnd g (.val d) r) (k := ⟨f⟩)) (k := ⟨fun r => forGo g f ds r⟩) := by
  simp only [forGo]
  cases bnd g (.val d) r with
  | none => rfl
  | some r1 =>
    simp only [kb_some]
    cases f r1 with
    | none => rfl
    | some p =>
      obtain ⟨fl, r2⟩ := p
      cases fl <;> rfl
/-- a loop that looks at each and may end the def with one answer -/
theorem forGo_chk {o : O} (ok : α → Bool) (J : En → Prop) : ∀ {ys : List α} {r : En}, J r → (∀ y ∈ ys, ∀ r, J r → ∃ r1, kb (bnd g (.val (enc y)) r) (k := ⟨f⟩) = some (ki (ok y) (x := ⟨.nx⟩) (y := ⟨.rt o⟩), r1) ∧ J r1) →
    ∃ r1, forGo g f (ys.map enc) r = some (ki (ys.all ok) (x := ⟨.nx⟩) (y := ⟨.rt o⟩), r1) ∧ J r1
  | [], r, h, _ => ⟨r, rfl, h⟩
  | y :: ys, r, h, H => by
    obtain ⟨r1, e1, p1⟩ := H y (by simp) r h
    rw [List.map_cons, forGo_cons, e1]
    cases hy : ok y with
    | false => exact ⟨r1, by simp [hy], p1⟩
    | true =>
      obtain ⟨r2, e2, p2⟩ := forGo_chk ok J (ys := ys) p1 fun x hx => H x (by simp [hx])
      exact ⟨r2, by simp [hy, e2], p2⟩
/-- a loop that hands a state on -/
theorem forGo_fold (env : σ → En → Prop) (step : σ → α → σ) : ∀ {ys : List α} {s : σ} {r : En}, env s r → (∀ y ∈ ys, ∀ s r, env s r → ∃ r1, kb (bnd g (.val (enc y)) r) (k := ⟨f⟩) = some (.nx, r1) ∧ env (step s y) r1) →
    ∃ r1, forGo g f (ys.map enc) r = some (.nx, r1) ∧ env (ys.foldl step s) r1
  | [], s, r, h, _ => ⟨r, rfl, h⟩
  | y :: ys, s, r, h, H => by
    obtain ⟨r1, e1, p1⟩ := H y (by simp) s r h
    rw [List.map_cons, forGo_cons, e1]
    exact forGo_fold env step (ys := ys) p1 fun x hx => H x (by simp [hx])
/-- .. or ends the def with one answer -/
theorem forGo_foldM {o : O} (env : Option σ → En → Prop) (step : σ → α → Option σ) : ∀ {ys : List α} {s : σ} {r : En}, env (some s) r →
    (∀ y ∈ ys, ∀ s r, env (some s) r → ∃ r1, kb (bnd g (.val (enc y)) r) (k := ⟨f⟩) = some (ki (step s y).isSome (x := ⟨.nx⟩) (y := ⟨.rt o⟩), r1) ∧ env (step s y) r1) →
    ∃ r1, forGo g f (ys.map enc) r = some (ki (ys.foldlM step s).isSome (x := ⟨.nx⟩) (y := ⟨.rt o⟩), r1) ∧ env (ys.foldlM step s) r1
  | [], s, r, h, _ => ⟨r, rfl, h⟩
  | y :: ys, s, r, h, H => by
    obtain ⟨r1, e1, p1⟩ := H y (by simp) s r h
    rw [List.map_cons, forGo_cons, e1]
    cases hy : step s y with
    | none =>
      rw [hy] at p1
      exact ⟨r1, by simp [hy], by simpa [hy] using p1⟩
    | some s1 =>
      rw [hy] at p1
      obtain ⟨r2, e2, p2⟩ := forGo_foldM env step (ys := ys) p1 fun x hx => H x (by simp [hx])
      exact ⟨r2, by simp [hy, e2], by simpa [hy] using p2⟩
/-- .. counted -/
theorem forGo_cnt (env : Nat → En → Prop) (N : Nat) : ∀ {ys : List α} {k : Nat} {r : En}, k + ys.length ≤ N → env k r → (∀ y ∈ ys, ∀ k r, k < N → env k r → ∃ r1, kb (bnd g (.val (enc y)) r) (k := ⟨f⟩) = some (.nx, r1) ∧ env (k + 1) r1) →
    ∃ r1, forGo g f (ys.map enc) r = some (.nx, r1) ∧ env (k + ys.length) r1
  | [], k, r, _, h, _ => ⟨r, rfl, h⟩
  | y :: ys, k, r, hN, h, H => by
    rw [List.length_cons] at hN
    obtain ⟨r1, e1, p1⟩ := H y (by simp) k r (by omega) h
    rw [List.map_cons, forGo_cons, e1]
    obtain ⟨r2, e2, p2⟩ := forGo_cnt env N (ys := ys) (by omega) p1 fun x hx => H x (by simp [hx])
    exact ⟨r2, e2, by rw [List.length_cons, Nat.add_comm ys.length 1, ← Nat.add_assoc]; exact p2⟩
/-- .. with its places -/
theorem forGo_ix {enc : α × Nat → D} (env : Nat → En → Prop) (ZS : List α) : ∀ {ys : List α} {k : Nat} {r : En}, ZS.drop k = ys → env k r → (∀ k t r, ZS[k]? = some t → env k r → ∃ r1, kb (bnd g (.val (enc (t, k))) r) (k := ⟨f⟩) = some (.nx, r1) ∧ env (k + 1) r1) →
    ∃ r1, forGo g f ((ys.zipIdx k).map enc) r = some (.nx, r1) ∧ env (k + ys.length) r1
  | [], k, r, _, h, _ => ⟨r, rfl, h⟩
  | y :: ys, k, r, hd, h, H => by
    have hy : ZS[k]? = some y := by
      have : (ZS.drop k)[0]? = some y := by rw [hd]; rfl
      rwa [List.getElem?_drop] at this
    obtain ⟨r1, e1, p1⟩ := H k y r hy h
    rw [List.zipIdx_cons, List.map_cons, forGo_cons, e1]
    obtain ⟨r2, e2, p2⟩ := forGo_ix env ZS (ys := ys) (by rw [← List.drop_drop, hd]; rfl) p1 H
    exact ⟨r2, e2, by rw [List.length_cons, Nat.add_comm ys.length 1, ← Nat.add_assoc]; exact p2⟩
/-- .. with a state, counted -/
theorem forGo_foldC (env : Nat → σ → En → Prop) (step : σ → α → σ) (N : Nat) : ∀ {ys : List α} {k : Nat} {s : σ} {r : En}, k + ys.length ≤ N → env k s r → (∀ y ∈ ys, ∀ k s r, k < N → env k s r → ∃ r1, kb (bnd g (.val (enc y)) r) (k := ⟨f⟩) = some (.nx, r1) ∧ env (k + 1) (step s y) r1) →
    ∃ r1, forGo g f (ys.map enc) r = some (.nx, r1) ∧ env (k + ys.length) (ys.foldl step s) r1
  | [], k, s, r, _, h, _ => ⟨r, rfl, h⟩
  | y :: ys, k, s, r, hN, h, H => by
    rw [List.length_cons] at hN
    obtain ⟨r1, e1, p1⟩ := H y (by simp) k s r (by omega) h
    rw [List.map_cons, forGo_cons, e1]
    obtain ⟨r2, e2, p2⟩ := forGo_foldC env step N (ys := ys) (by omega) p1 fun x hx => H x (by simp [hx])
    exact ⟨r2, e2, by rw [List.length_cons, Nat.add_comm ys.length 1, ← Nat.add_assoc]; exact p2⟩
/-- .. by a relation -/
theorem forGo_rel (env : σ → En → Prop) (R : σ → σ → Prop) (h0 : ∀ s, R s s) (ht : ∀ a b c, R a b → R b c → R a c) : ∀ {ys : List α} {s : σ} {r : En}, env s r → (∀ y ∈ ys, ∀ s r, env s r → ∃ s1 r1, kb (bnd g (.val (enc y)) r) (k := ⟨f⟩) = some (.nx, r1) ∧ env s1 r1 ∧ R s s1) →
    ∃ s1 r1, forGo g f (ys.map enc) r = some (.nx, r1) ∧ env s1 r1 ∧ R s s1
  | [], s, r, h, _ => ⟨s, r, rfl, h, h0 s⟩
  | y :: ys, s, r, h, H => by
    obtain ⟨s1, r1, e1, p1, q1⟩ := H y (by simp) s r h
    rw [List.map_cons, forGo_cons, e1]
    obtain ⟨s2, r2, e2, p2, q2⟩ := forGo_rel env R h0 ht (ys := ys) p1 fun x hx => H x (by simp [hx])
    exact ⟨s2, r2, e2, p2, ht _ _ _ q1 q2⟩
end
/-! ### rows of pairs -/
theorem zip2_map {α β : Type} (f : α → D) (g : β → D) : ∀ (xs : List α) (ys : List β), zip2 (xs.map f) (ys.map g) = (xs.zip ys).map fun p => .tuple [f p.1, g p.2]
  | [], _ => by simp [zip2]
  | _ :: _, [] => by simp [zip2]
  | x :: xs, y :: ys => by simp [zip2, zip2_map f g xs ys]
theorem zip3_map {α β γ : Type} (f : α → D) (g : β → D) (h : γ → D) : ∀ (xs : List α) (ys : List β) (zs : List γ), zip3 (xs.map f) (ys.map g) (zs.map h) = (xs.zip (ys.zip zs)).map fun p => .tuple [f p.1, g p.2.1, h p.2.2]
  | [], _, _ => by simp [zip3]
  | _ :: _, [], _ => by simp [zip3]
  | _ :: _, _ :: _, [] => by simp [zip3]
  | x :: xs, y :: ys, z :: zs => by simp [zip3, zip3_map f g h xs ys zs]
theorem enumD_map {α : Type} (f : α → D) : ∀ (xs : List α) (k : Nat), enumD k (xs.map f) = (xs.zipIdx k).map fun p => .tuple [.int (p.2 : Nat), f p.1]
  | [], _ => rfl
  | x :: xs, k => by simp [enumD, enumD_map f xs (k + 1)]
/-! ### values that can be laid -/
structure vok (d : D) : Prop where
  lay : d.canLay0 = true
  dep : d.depth ≤ 50
theorem canAll_mem : ∀ {ds : List D}, PyData.canLayAll0 ds = true → ∀ d ∈ ds, d.canLay0 = true
  | [], _, _, h => by simp at h
  | e :: ds, h, d, hd => by
    simp only [PyData.canLayAll0, Bool.and_eq_true] at h
    rcases List.mem_cons.mp hd with rfl | hd
    · exact h.1
    · exact canAll_mem h.2 d hd
theorem canAll_of : ∀ {ds : List D}, (∀ d ∈ ds, d.canLay0 = true) → PyData.canLayAll0 ds = true
  | [], _ => rfl
  | e :: ds, h => by
    simp only [PyData.canLayAll0, Bool.and_eq_true]
    exact ⟨h e (by simp), canAll_of fun d hd => h d (by simp [hd])⟩
theorem depAll_le {k : Nat} : ∀ {ds : List D}, PyData.depthAll ds ≤ k ↔ ∀ d ∈ ds, d.depth ≤ k
  | [] => by simp [PyData.depthAll]
  | e :: ds => by
    simp only [PyData.depthAll, Nat.max_le, depAll_le (ds := ds), List.mem_cons, forall_eq_or_imp]
theorem nd_of : ∀ {d : D}, d.canLay0 = true → nd d = true := by
  intro d
  refine PyData.rec (motive_1 := fun d => d.canLay0 = true → nd d = true) (motive_2 := fun ds => PyData.canLayAll0 ds = true → nds ds = true) (motive_3 := fun _ => True) (motive_4 := fun _ => True) ?_ ?_ ?_ ?_ ?_ ?_ ?_ ?_ ?_ ?_ ?_ ?_ d
  · exact fun _ => rfl
  · exact fun _ _ => rfl
  · exact fun _ _ => rfl
  · exact fun _ _ => rfl
  · exact fun ds ih h => by simp only [nd]; exact ih (by simpa only [PyData.canLay0] using h)
  · exact fun ds ih h => by simp only [nd]; exact ih (by simpa only [PyData.canLay0] using h)
  · exact fun _ _ h => by simp [PyData.canLay0] at h
  · exact fun _ => rfl
  · intro e ds h1 h2 h
    simp only [PyData.canLayAll0, Bool.and_eq_true] at h
    simp only [nds, Bool.and_eq_true]
    exact ⟨h1 h.1, h2 h.2⟩
  all_goals intros; trivial
theorem vok.nd {d : D} (h : vok d) : nd d = true := nd_of h.lay
theorem vok.tup {ds : List D} (h : vok (.tuple ds)) : ∀ d ∈ ds, vok d := fun d hd => by
  have h1 := h.lay
  have h2 := h.dep
  simp only [PyData.canLay0] at h1
  simp only [PyData.depth] at h2
  have := depAll_le.mp (show PyData.depthAll ds ≤ 49 by omega) d hd
  exact ⟨canAll_mem h1 d hd, by omega⟩
theorem shaped_list {ds : List D} (h : ∀ d ∈ ds, vok d) : SeqAt.shaped (.list ds) = true := by
  unfold SeqAt.shaped
  rw [Bool.and_eq_true, decide_eq_true_eq]
  refine ⟨?_, ?_⟩
  · simp only [PyData.canLay0]
    exact canAll_of fun d hd => (h d hd).lay
  · simp only [PyData.depth]
    have := depAll_le.mpr fun d hd => (h d hd).dep
    omega
theorem shaped_tup {ds : List D} (h : ∀ d ∈ ds, vok d) : SeqAt.shaped (.tuple ds) = true := by
  unfold SeqAt.shaped
  rw [Bool.and_eq_true, decide_eq_true_eq]
  refine ⟨?_, ?_⟩
  · simp only [PyData.canLay0]
    exact canAll_of fun d hd => (h d hd).lay
  · simp only [PyData.depth]
    have := depAll_le.mpr fun d hd => (h d hd).dep
    omega
theorem vok_int {i : Int} : vok (.int i) := ⟨rfl, by simp [PyData.depth]⟩
theorem vok_none : vok .none := ⟨rfl, by simp [PyData.depth]⟩
theorem vok_bool {b : Bool} : vok (.bool b) := ⟨rfl, by simp [PyData.depth]⟩
theorem eqv_ints : ∀ xs ys : List Int, PyData.eqvAll (xs.map PyData.int) (ys.map PyData.int) = decide (xs = ys)
  | [], [] => rfl
  | [], _ :: _ => rfl
  | _ :: _, [] => rfl
  | x :: xs, y :: ys => by
    simp only [List.map_cons, PyData.eqvAll, PyData.eqv, eqv_ints xs ys, beq_dec]
    by_cases h : x = y <;> simp [h]
theorem cmpD_eqT {xs ys : List Int} : cmpD .eq (.tuple (xs.map PyData.int)) (.tuple (ys.map PyData.int)) = some (decide (xs = ys)) := by
  have h : ∀ zs : List Int, ∀ d ∈ zs.map PyData.int, vok d := fun zs d hd => by
    obtain ⟨i, _, rfl⟩ := List.mem_map.mp hd
    exact vok_int
  show (if eqOk (.tuple (xs.map PyData.int)) (.tuple (ys.map PyData.int)) then some (PyData.eqv _ _) else none) = _
  rw [if_pos (by unfold eqOk; rw [shaped_tup (h xs), shaped_tup (h ys)]; simp)]
  simp only [PyData.eqv, eqv_ints]
theorem cmpD_neN {ds : List D} (h : ∀ d ∈ ds, vok d) : cmpD .ne (.list ds) (.list []) = some (!ds.isEmpty) := by
  show (if eqOk (.list ds) (.list []) then some (!PyData.eqv _ _) else none) = _
  rw [if_pos (by unfold eqOk; rw [shaped_list h, shaped_list (ds := []) (by simp)]; simp)]
  cases ds <;> simp [PyData.eqv, PyData.eqvAll]
@[simp] theorem all_yes {α : Type} (xs : List α) : (xs.all fun _ => true) = true := by simp
theorem ki_eq {β : Type} {c d : Bool} {x y : β} (h : c = d) : ki c (x := ⟨x⟩) (y := ⟨y⟩) = ki d (x := ⟨x⟩) (y := ⟨y⟩) := by rw [h]
theorem ki_ret {c : Bool} {r : En} : ki c (x := ⟨some (Fl.rt (O.val (.bool false)), r)⟩) (y := ⟨some (Fl.nx, r)⟩) = some (ki (!c) (x := ⟨.nx⟩) (y := ⟨.rt (.val (.bool false))⟩), r) := by cases c <;> rfl
@[simp] theorem sqK_kip {c : Bool} {o : O} {r : En} {k : En → Option (Fl × En)} : sqK (some (ki c (x := ⟨Fl.nx⟩) (y := ⟨Fl.rt o⟩), r)) (k := ⟨k⟩) = ki c (x := ⟨k r⟩) (y := ⟨some (.rt o, r)⟩) := by cases c <;> rfl
theorem three {α : Type} {xs : List α} (h : xs.length = 3) : ∃ a b c, xs = [a, b, c] := by
  match xs, h with
  | [a, b, c], _ => exact ⟨a, b, c, rfl⟩
theorem two {α : Type} {xs : List α} (h : xs.length = 2) : ∃ a b, xs = [a, b] := by
  match xs, h with
  | [a, b], _ => exact ⟨a, b, rfl⟩
theorem get_some {α : Type} {xs : List α} {i : Nat} (h : i < xs.length) : ∃ x, xs[i]? = some x := ⟨xs[i], List.getElem?_eq_getElem h⟩
/-! the same where the walk stands in a goal (generalize hF : forGo _ _ _ _ = F) -/
section
variable {α σ : Type} {f : D → En → Option (Option O × En)} {r : En} {enc : α → D} {F : Option (List O × En)} {DS : List D} {ys : List α}
theorem lc_enc (hF : lcGo f DS r = F) (hD : DS = ys.map enc) (g : α → O) (h : ∀ y ∈ ys, f (enc y) r = some (some (g y), r)) : F = some (ys.map g, r) := by
  subst hF; subst hD; exact lcGo_enc g h
theorem lc_map (hF : lcGo f DS r = F) (g : D → O) (h : ∀ y ∈ DS, f y r = some (some (g y), r)) : F = some (DS.map g, r) := by
  subst hF; exact lcGo_map g h
theorem lc_filt (hF : lcGo f DS r = F) (hD : DS = ys.map enc) (p : α → Bool) (g : α → O) (h : ∀ y ∈ ys, f (enc y) r = some (ki (p y) (x := ⟨some (g y)⟩) (y := ⟨none⟩), r)) : F = some ((ys.filter p).map g, r) := by
  subst hF; subst hD; exact lcGo_filt p g h
theorem lc_st (hF : lcGo f DS r = F) (hD : DS = ys.map enc) (env : σ → En → Prop) (R : σ → List O → σ → Prop) (h0 : ∀ s, R s [] s) {s : σ} (hs : env s r)
    (H : ∀ y ∈ ys, ∀ s r, env s r → ∃ o s1 r1, f (enc y) r = some (some o, r1) ∧ env s1 r1 ∧ ∀ os s2, R s1 os s2 → R s (o :: os) s2) : ∃ os s1 r1, F = some (os, r1) ∧ env s1 r1 ∧ os.length = ys.length ∧ R s os s1 := by
  subst hF; subst hD; exact lcGo_st env R h0 hs H
end
section
variable {α σ : Type} {g : G} {f : En → Option (Fl × En)} {r : En} {enc : α → D} {F : Option (Fl × En)} {DS : List D} {ys : List α}
theorem for_chk (hF : forGo g f DS r = F) (hD : DS = ys.map enc) {o : O} (ok : α → Bool) (J : En → Prop) (hJ : J r) (h : ∀ y ∈ ys, ∀ r, J r → ∃ r1, kb (bnd g (.val (enc y)) r) (k := ⟨f⟩) = some (ki (ok y) (x := ⟨.nx⟩) (y := ⟨.rt o⟩), r1) ∧ J r1) :
    ∃ r1, F = some (ki (ys.all ok) (x := ⟨.nx⟩) (y := ⟨.rt o⟩), r1) ∧ J r1 := by
  subst hF; subst hD; exact forGo_chk ok J hJ h
theorem for_fold (hF : forGo g f DS r = F) (hD : DS = ys.map enc) (env : σ → En → Prop) (step : σ → α → σ) {s : σ} (hs : env s r) (h : ∀ y ∈ ys, ∀ s r, env s r → ∃ r1, kb (bnd g (.val (enc y)) r) (k := ⟨f⟩) = some (.nx, r1) ∧ env (step s y) r1) :
    ∃ r1, F = some (.nx, r1) ∧ env (ys.foldl step s) r1 := by
  subst hF; subst hD; exact forGo_fold env step hs h
theorem for_foldM (hF : forGo g f DS r = F) (hD : DS = ys.map enc) {o : O} (env : Option σ → En → Prop) (step : σ → α → Option σ) {s : σ} (hs : env (some s) r)
    (h : ∀ y ∈ ys, ∀ s r, env (some s) r → ∃ r1, kb (bnd g (.val (enc y)) r) (k := ⟨f⟩) = some (ki (step s y).isSome (x := ⟨.nx⟩) (y := ⟨.rt o⟩), r1) ∧ env (step s y) r1) :
    ∃ r1, F = some (ki (ys.foldlM step s).isSome (x := ⟨.nx⟩) (y := ⟨.rt o⟩), r1) ∧ env (ys.foldlM step s) r1 := by
  subst hF; subst hD; exact forGo_foldM env step hs h
theorem for_cnt (hF : forGo g f DS r = F) (hD : DS = ys.map enc) (env : Nat → En → Prop) (hs : env 0 r) (h : ∀ y ∈ ys, ∀ k r, k < ys.length → env k r → ∃ r1, kb (bnd g (.val (enc y)) r) (k := ⟨f⟩) = some (.nx, r1) ∧ env (k + 1) r1) :
    ∃ r1, F = some (.nx, r1) ∧ env ys.length r1 := by
  subst hF; subst hD
  have := forGo_cnt env ys.length (by omega) hs h
  rwa [Nat.zero_add] at this
theorem for_ix {enc : α × Nat → D} (hF : forGo g f DS r = F) (hD : DS = (ys.zipIdx 0).map enc) (env : Nat → En → Prop) (hs : env 0 r) (h : ∀ k t r, ys[k]? = some t → env k r → ∃ r1, kb (bnd g (.val (enc (t, k))) r) (k := ⟨f⟩) = some (.nx, r1) ∧ env (k + 1) r1) :
    ∃ r1, F = some (.nx, r1) ∧ env ys.length r1 := by
  subst hF; subst hD
  have := forGo_ix env ys (k := 0) (ys := ys) rfl hs h
  rwa [Nat.zero_add] at this
theorem for_foldC (hF : forGo g f DS r = F) (hD : DS = ys.map enc) (env : Nat → σ → En → Prop) (step : σ → α → σ) {s : σ} (hs : env 0 s r) (h : ∀ y ∈ ys, ∀ k s r, k < ys.length → env k s r → ∃ r1, kb (bnd g (.val (enc y)) r) (k := ⟨f⟩) = some (.nx, r1) ∧ env (k + 1) (step s y) r1) :
    ∃ r1, F = some (.nx, r1) ∧ env ys.length (ys.foldl step s) r1 := by
  subst hF; subst hD
  have := forGo_foldC env step ys.length (by omega) hs h
  rwa [Nat.zero_add] at this
theorem for_rel (hF : forGo g f DS r = F) (hD : DS = ys.map enc) (env : σ → En → Prop) (R : σ → σ → Prop) (h0 : ∀ s, R s s) (ht : ∀ a b c, R a b → R b c → R a c) {s : σ} (hs : env s r)
    (h : ∀ y ∈ ys, ∀ s r, env s r → ∃ s1 r1, kb (bnd g (.val (enc y)) r) (k := ⟨f⟩) = some (.nx, r1) ∧ env s1 r1 ∧ R s s1) : ∃ s1 r1, F = some (.nx, r1) ∧ env s1 r1 ∧ R s s1 := by
  subst hF; subst hD; exact forGo_rel env R h0 ht hs h
end
/-- a row of statements that goes on -/
def Run (gl : List (Str × D)) (cf : Cf) (b : S) (r : En) (J : En → Prop) : Prop := ∃ r1, ex gl cf b r = some (.nx, r1) ∧ J r1
theorem run_sq {gl : List (Str × D)} {cf : Cf} {a b : S} {r : En} {J : En → Prop} (h : ∃ r1, ex gl cf a r = some (.nx, r1) ∧ Run gl cf b r1 J) : Run gl cf (.sq a b) r J := by
  obtain ⟨r1, e, r2, e2, j⟩ := h
  exact ⟨r2, by rw [ex_sq, e]; exact e2, j⟩
theorem run_sqE {gl : List (Str × D)} {cf : Cf} {a b : S} {r : En} {J : En → Prop} (P : En → Prop) (h : ∃ r1, ex gl cf a r = some (.nx, r1) ∧ P r1) (h2 : ∀ r1, P r1 → Run gl cf b r1 J) : Run gl cf (.sq a b) r J := by
  obtain ⟨r1, e, p⟩ := h
  exact run_sq ⟨r1, e, h2 r1 p⟩
theorem run_sqH {gl : List (Str × D)} {cf : Cf} {a b : S} {r : En} {J : En → Prop} (P : En → Prop) (h : ∀ x, x = ex gl cf a r → ∃ r1, x = some (.nx, r1) ∧ P r1) (h2 : ∀ r1, P r1 → Run gl cf b r1 J) : Run gl cf (.sq a b) r J := by
  obtain ⟨r1, e, p⟩ := h _ rfl
  exact run_sq ⟨r1, e, h2 r1 p⟩
theorem run_nop {gl : List (Str × D)} {cf : Cf} {r : En} {J : En → Prop} (h : J r) : Run gl cf .nop r J := ⟨r, by simp, h⟩
/-- a loop whose turns all go on -/
theorem for_run {α : Type} {g : G} {gl : List (Str × D)} {cf : Cf} {b : S} {r : En} {enc : α → D} {F : Option (Fl × En)} {DS : List D} {ys : List α} (hF : forGo g (ex gl cf b) DS r = F) (hD : DS = ys.map enc) (J : En → Prop) (hJ : J r)
    (h : ∀ y ∈ ys, ∀ r, J r → ∃ r1, bnd g (.val (enc y)) r = some r1 ∧ Run gl cf b r1 J) : ∃ r1, F = some (.nx, r1) ∧ J r1 := by
  obtain ⟨r1, e, j⟩ := for_chk (o := .val .none) hF hD (fun _ => true) J hJ (fun y hy r hr => by
    obtain ⟨r1, e1, r2, e2, j⟩ := h y hy r hr
    exact ⟨r2, by rw [e1]; exact e2, j⟩)
  rw [all_yes] at e
  exact ⟨r1, e, j⟩
/-- one statement of a def's row -/
theorem stepS {gl : List (Str × D)} {cf : Cf} {io : List Bool} {a b : S} {r r1 : En} {X : Option (O × List (Option O))} (h : ex gl cf a r = some (.nx, r1)) (h2 : endK io (ex gl cf b r1) = X) : endK io (ex gl cf (.sq a b) r) = X := by
  rw [ex_sq, h]
  exact h2
end Pl

end
section
set_option maxHeartbeats 4000000
/-! ErD: earth as plain data. -/
namespace Er
open PySem L2 Mi Pl
structure E where
  am : List Int
  wy : List (Int × Int)
  tp : List (Option Int × Option Int)
def od : Option Int → PyData
  | none => .none
  | some i => .int i
def wD (w : Int × Int) : PyData := .tuple [.int w.1, .int w.2]
def tD (t : Option Int × Option Int) : PyData := .tuple [od t.1, od t.2]
abbrev amD (e : E) : PyData := .tuple (e.am.map PyData.int)
abbrev wyD (e : E) : PyData := .tuple (e.wy.map wD)
abbrev tpD (e : E) : PyData := .tuple (e.tp.map tD)
def eD (e : E) : PyData := .tuple [.str "earth", amD e, wyD e, tpD e]
@[simp] theorem child_e0 {e : E} : O.child (.val (eD e)) 0 = some (.val (.str "earth")) := (rfl)
@[simp] theorem child_e1 {e : E} : O.child (.val (eD e)) 1 = some (.val (amD e)) := (rfl)
@[simp] theorem child_e2 {e : E} : O.child (.val (eD e)) 2 = some (.val (wyD e)) := (rfl)
@[simp] theorem child_e3 {e : E} : O.child (.val (eD e)) 3 = some (.val (tpD e)) := (rfl)
def oOk (t : Option Int) : Prop := ∀ i, t = some i → 0 ≤ i ∧ i ≤ 999
structure ok (e : E) : Prop where
  l1 : 1 ≤ e.am.length
  l2 : e.am.length ≤ 10
  lw : e.wy.length + 1 = e.am.length
  lt : e.tp.length = e.am.length
  am : ∀ a ∈ e.am, -99 ≤ a ∧ a ≤ 99
  wy : ∀ w ∈ e.wy, (0 ≤ w.1 ∧ w.1 ≤ 99) ∧ 0 ≤ w.2 ∧ w.2 ≤ 99
  tp : ∀ t ∈ e.tp, oOk t.1 ∧ oOk t.2
@[simp] theorem isNone_od {t : Option Int} : isNone (od t) = t.isNone := by cases t <;> rfl
@[simp] theorem nd_od {t : Option Int} : nd (od t) = true := by cases t <;> rfl
/-- a count -/
def isC : PyData → Bool
  | .int i => decide (0 ≤ i)
  | _ => false
/-- a row of so many ints -/
def isRow (v : PyData) (m : Nat) : Bool := match v with
  | .tuple ds => decide (ds.length = m) && ds.all isI
  | _ => false
def kept (o : Option Int × Option Int → Option Int) (tp : List (Option Int × Option Int)) (xs : List Int) : Bool := (tp.zip xs).all fun p => decide (0 ≤ p.2) && ((o p.1).isSome || decide (p.2 = 0))
/-- what goes over the gaps, and what is left behind the last place -/
def hauls : Int → List Int → List Int → List Int → List Int
  | l, a :: am, b :: bs, d :: ds => (l + a + b - d) :: hauls (l + a + b - d) am bs ds
  | _, _, _, _ => []
def tot (am bs ds : List Int) : Int := am.sum + bs.sum - ds.sum
def isPlanR (e : E) (hs bs ds : List Int) : Bool := decide (hs.length + 1 = e.am.length) && decide (bs.length = e.am.length) && decide (ds.length = e.am.length) && kept (·.1) e.tp bs && kept (·.2) e.tp ds &&
  decide (hauls 0 e.am bs ds = hs ++ [0])
/-- a plan -/
def isPlan (e : E) : PyData → Bool
  | .tuple [.tuple h, .tuple b, .tuple d] => match intL h, intL b, intL d with
    | some hs, some bs, some ds => isPlanR e hs bs ds
    | _, _, _ => false
  | _ => false
def gapsOk : List (Int × Int) → List Int → Bool
  | w :: ws, p :: q :: ps => decide (0 - w.2 ≤ q - p) && decide (q - p ≤ w.1) && gapsOk ws (q :: ps)
  | _, _ => true
def tipOk (t : Option Int × Option Int) (p : Int) : Bool := (match t.1 with
    | some b => decide (p ≤ b)
    | none => true) && (match t.2 with
    | some d => decide (0 - d ≤ p)
    | none => true)
def arePricesR (e : E) (ps : List Int) : Bool := decide (ps.length = e.am.length) && gapsOk e.wy ps && (ps.zip e.tp).all fun q => tipOk q.2 q.1
def arePrices (e : E) : PyData → Bool
  | .tuple p => match intL p with
    | some ps => arePricesR e ps
    | none => false
  | _ => false
def can (e : E) : Bool := if e.am.sum = 0 then true else if 0 < e.am.sum then e.tp.any (fun t => t.2.isSome) else e.tp.any fun t => t.1.isSome
def hl (w : Int × Int) (m : Int) : Int := w.1 * max 0 m + w.2 * max 0 (0 - m)
def tc (t : Option Int) (m : Int) : Int := if 0 < m then t.getD 0 * m else 0
def costR (e : E) (hs bs ds : List Int) : Int := ((e.wy.zip hs).map fun p => hl p.1 p.2).sum + ((e.tp.zip (bs.zip ds)).map fun p => tc p.1.1 p.2.1 + tc p.1.2 p.2.2).sum
def boundR (e : E) (ps : List Int) : Int := 0 - ((ps.zip e.am).map fun p => p.1 * p.2).sum
/-- a plan's parts -/
def plD (hs bs ds : List Int) : PyData := .tuple [.tuple (hs.map PyData.int), .tuple (bs.map PyData.int), .tuple (ds.map PyData.int)]
def prD (ps : List Int) : PyData := .tuple (ps.map PyData.int)
theorem isPlan_inv {e : E} {v : PyData} (h : isPlan e v = true) : ∃ hs bs ds, v = plD hs bs ds ∧ isPlanR e hs bs ds = true := by
  unfold isPlan at h
  split at h
  · rename_i h1 b1 d1
    split at h
    · rename_i hs bs ds e1 e2 e3
      rw [intL_some e1, intL_some e2, intL_some e3]
      exact ⟨hs, bs, ds, rfl, h⟩
    · cases h
  · cases h
theorem isPlan_plD {e : E} {hs bs ds : List Int} : isPlan e (plD hs bs ds) = isPlanR e hs bs ds := by
  unfold isPlan plD
  simp
theorem arePrices_inv {e : E} {v : PyData} (h : arePrices e v = true) : ∃ ps, v = prD ps ∧ arePricesR e ps = true := by
  unfold arePrices at h
  split at h
  · split at h
    · rename_i ps e1
      rw [intL_some e1]
      exact ⟨ps, rfl, h⟩
    · cases h
  · cases h
theorem arePrices_prD {e : E} {ps : List Int} : arePrices e (prD ps) = arePricesR e ps := by
  unfold arePrices prD
  simp
theorem isRow_inv {v : PyData} {m : Nat} (h : isRow v m = true) : ∃ xs : List Int, v = .tuple (xs.map PyData.int) ∧ xs.length = m := by
  unfold isRow at h
  split at h
  · simp only [Bool.and_eq_true, decide_eq_true_eq] at h
    obtain ⟨xs, rfl⟩ := intL_isI h.2
    exact ⟨xs, rfl, by simpa using h.1⟩
  · cases h
theorem isRow_ints {xs : List Int} : isRow (.tuple (xs.map PyData.int)) xs.length = true := by simp [isRow]
theorem isPlan_rows {e : E} {a b c : PyData} (h : isPlan e (.tuple [a, b, c]) = true) (hw : e.wy.length + 1 = e.am.length) : isRow a e.wy.length = true ∧ isRow b e.am.length = true ∧ isRow c e.am.length = true := by
  obtain ⟨hs, bs, ds, e1, h2⟩ := isPlan_inv h
  unfold plD at e1
  simp only [PyData.tuple.injEq, List.cons.injEq, and_true] at e1
  obtain ⟨rfl, rfl, rfl⟩ := e1
  simp only [isPlanR, Bool.and_eq_true, decide_eq_true_eq] at h2
  obtain ⟨⟨⟨⟨⟨h1, h2⟩, h3⟩, h4⟩, h5⟩, h6⟩ := h2
  have : hs.length = e.wy.length := by omega
  exact ⟨this ▸ isRow_ints, h2 ▸ isRow_ints, h3 ▸ isRow_ints⟩
def stp (wl : Nat) (hs bs ds : List Int) (l : Int) (p : Int × Nat) : Option Int := if l + p.1 + bs.getD p.2 0 - ds.getD p.2 0 = (if p.2 < wl then hs.getD p.2 0 else 0) then some (l + p.1 + bs.getD p.2 0 - ds.getD p.2 0) else none
theorem stp_hauls {wl : Nat} {HS BS DS : List Int} : ∀ {am : List Int} {k : Nat} {hs bs ds : List Int} {l : Int}, hs.length + 1 = am.length → bs.length = am.length → ds.length = am.length → k + hs.length = wl → HS.drop k = hs → BS.drop k = bs → DS.drop k = ds →
    ((am.zipIdx k).foldlM (stp wl HS BS DS) l).isSome = decide (hauls l am bs ds = hs ++ [0])
  | [], _, _, _, _, _, h, _, _, _, _, _, _ => by simp at h
  | a :: am, k, hs, bs, ds, l, h1, h2, h3, h4, h5, h6, h7 => by
    match bs, ds, h2, h3 with
    | b :: bs, d :: ds, h2, h3 =>
      have gb : BS.getD k 0 = b := by
        have : (BS.drop k)[0]? = some b := by rw [h6]; rfl
        rw [List.getElem?_drop] at this
        rw [List.getD_eq_getElem?_getD, show k = k + 0 from rfl, this]; rfl
      have gd : DS.getD k 0 = d := by
        have : (DS.drop k)[0]? = some d := by rw [h7]; rfl
        rw [List.getElem?_drop] at this
        rw [List.getD_eq_getElem?_getD, show k = k + 0 from rfl, this]; rfl
      have tb : BS.drop (k + 1) = bs := by rw [← List.drop_drop, h6]; rfl
      have td : DS.drop (k + 1) = ds := by rw [← List.drop_drop, h7]; rfl
      rw [List.zipIdx_cons, List.foldlM_cons]
      simp only [hauls]
      match hs with
      | [] =>
        simp only [List.length_nil, List.length_cons] at h1 h4
        have : am = [] := List.length_eq_zero_iff.mp (by omega)
        subst this
        have hk : ¬ k < wl := by omega
        simp only [stp, gb, gd, if_neg hk, List.nil_append]
        by_cases hz : l + a + b - d = 0
        · simp [hz, hauls]
        · simp [hz]
      | x :: hs =>
        have gh : HS.getD k 0 = x := by
          have : (HS.drop k)[0]? = some x := by rw [h5]; rfl
          rw [List.getElem?_drop] at this
          rw [List.getD_eq_getElem?_getD, show k = k + 0 from rfl, this]; rfl
        have th : HS.drop (k + 1) = hs := by rw [← List.drop_drop, h5]; rfl
        simp only [List.length_cons] at h1 h2 h3 h4
        have hk : k < wl := by omega
        simp only [stp, gb, gd, gh, if_pos hk, List.cons_append, List.cons.injEq]
        by_cases hz : l + a + b - d = x
        · rw [if_pos hz]
          have := stp_hauls (wl := wl) (HS := HS) (BS := BS) (DS := DS) (am := am) (k := k + 1) (hs := hs) (bs := bs) (ds := ds) (l := l + a + b - d) (by omega) (by omega) (by omega) (by omega) th tb td
          simp only [hz, true_and]
          simp only [hz] at this
          exact this
        · rw [if_neg hz]
          simp [hz]
def gapOk (ps : List Int) (p : (Int × Int) × Nat) : Bool := decide (0 - p.1.2 ≤ ps.getD (p.2 + 1) 0 - ps.getD p.2 0) && decide (ps.getD (p.2 + 1) 0 - ps.getD p.2 0 ≤ p.1.1)
theorem gaps_all {PS : List Int} : ∀ {wy : List (Int × Int)} {k : Nat} {ps : List Int}, ps.length = wy.length + 1 → PS.drop k = ps → (wy.zipIdx k).all (gapOk PS) = gapsOk wy ps
  | [], _, ps, h, _ => by
    match ps, h with
    | [p], _ => rfl
  | w :: wy, k, ps, h, hd => by
    match ps, h with
    | p :: q :: ps, h =>
      have g0 : PS.getD k 0 = p := by
        have : (PS.drop k)[0]? = some p := by rw [hd]; rfl
        rw [List.getElem?_drop] at this
        rw [List.getD_eq_getElem?_getD, show k = k + 0 from rfl, this]; rfl
      have g1 : PS.getD (k + 1) 0 = q := by
        have : (PS.drop k)[1]? = some q := by rw [hd]; rfl
        rw [List.getElem?_drop] at this
        rw [List.getD_eq_getElem?_getD, this]; rfl
      rw [List.zipIdx_cons, List.all_cons, gaps_all (ps := q :: ps) (by simpa using h) (by rw [← List.drop_drop, hd]; rfl)]
      simp only [gapOk, g0, g1, gapsOk]
theorem arePrices_row {e : E} {v : PyData} (h : arePrices e v = true) : isRow v e.am.length = true := by
  obtain ⟨ps, rfl, h2⟩ := arePrices_inv h
  simp only [arePricesR, Bool.and_eq_true, decide_eq_true_eq] at h2
  exact h2.1.1 ▸ isRow_ints
theorem foldl_sum {α : Type} (f : α → Int) : ∀ (xs : List α) (s : Int), xs.foldl (fun s p => s + f p) s = s + (xs.map f).sum
  | [], s => by simp
  | x :: xs, s => by
    rw [List.foldl_cons, foldl_sum f xs, List.map_cons, List.sum_cons]
    omega
theorem zip3_mem1 {α β γ : Type} : ∀ {xs : List α} {ys : List β} {zs : List γ} {a : α} {b : β} {c : γ}, (a, b, c) ∈ xs.zip (ys.zip zs) → (a, b) ∈ xs.zip ys ∧ (a, c) ∈ xs.zip zs
  | [], _, _, _, _, _, h => by simp at h
  | _ :: _, [], _, _, _, _, h => by simp at h
  | _ :: _, _ :: _, [], _, _, _, h => by simp at h
  | x :: xs, y :: ys, z :: zs, a, b, c, h => by
    simp only [List.zip_cons_cons, List.mem_cons, Prod.mk.injEq] at h ⊢
    rcases h with ⟨rfl, rfl, rfl⟩ | h
    · exact ⟨.inl ⟨rfl, rfl⟩, .inl ⟨rfl, rfl⟩⟩
    · exact ⟨.inr (zip3_mem1 h).1, .inr (zip3_mem1 h).2⟩
theorem kept_mem {o : Option Int × Option Int → Option Int} {tp : List (Option Int × Option Int)} {xs : List Int} {t : Option Int × Option Int} {m : Int} (h : kept o tp xs = true) (hm : (t, m) ∈ tp.zip xs) : 0 ≤ m ∧ ((o t).isSome = true ∨ m = 0) := by
  have := List.all_eq_true.mp h _ hm
  simp only [Bool.and_eq_true, Bool.or_eq_true, decide_eq_true_eq] at this
  exact this
theorem mulOk_tip {t : Option Int × Option Int} (h : oOk t.1 ∧ oOk t.2) : (∀ b, t.1 = some b → ∀ j, mulOk b j = true) ∧ ∀ b, t.2 = some b → ∀ j, mulOk b j = true :=
  ⟨fun b hb j => mulOk_l (by have := h.1 b hb; omega) (by have := h.1 b hb; omega), fun b hb j => mulOk_l (by have := h.2 b hb; omega) (by have := h.2 b hb; omega)⟩
def hstep (s : List Int × Int) (p : Int × Int × Int) : List Int × Int := (s.1 ++ [s.2 + p.1 + p.2.1 - p.2.2], s.2 + p.1 + p.2.1 - p.2.2)
theorem hstep_hauls : ∀ (am bs ds f : List Int) (l : Int), ((am.zip (bs.zip ds)).foldl hstep (f, l)).1 = f ++ hauls l am bs ds
  | [], _, _, f, l => by simp [hauls]
  | _ :: _, [], _, f, l => by simp [hauls]
  | _ :: _, _ :: _, [], f, l => by simp [hauls]
  | a :: am, b :: bs, d :: ds, f, l => by
    simp only [List.zip_cons_cons, List.foldl_cons, hauls]
    rw [show hstep (f, l) (a, b, d) = (f ++ [l + a + b - d], l + a + b - d) from rfl, hstep_hauls am bs ds]
    simp
theorem hauls_len : ∀ {am bs ds : List Int} {l : Int}, bs.length = am.length → ds.length = am.length → (hauls l am bs ds).length = am.length
  | [], _, _, _, _, _ => by simp [hauls]
  | a :: am, b :: bs, d :: ds, l, h1, h2 => by
    simp only [hauls, List.length_cons]
    rw [hauls_len (by simpa using h1) (by simpa using h2)]
theorem hauls_last : ∀ {am bs ds : List Int} {l : Int}, bs.length = am.length → ds.length = am.length → am ≠ [] → (hauls l am bs ds).getLast? = some (l + tot am bs ds)
  | a :: am, b :: bs, d :: ds, l, h1, h2, _ => by
    simp only [hauls]
    match am, bs, ds, h1, h2 with
    | [], [], [], _, _ => simp [hauls, tot]; omega
    | a2 :: am, b2 :: bs, d2 :: ds, h1, h2 =>
      have := hauls_last (am := a2 :: am) (bs := b2 :: bs) (ds := d2 :: ds) (l := l + a + b - d) (by simpa using h1) (by simpa using h2) (by simp)
      rw [List.getLast?_cons, this]
      simp only [Option.getD_some, tot, List.sum_cons]
      congr 1
      omega
/-- all is hauled, nothing is left -/
theorem hauls_iff {am bs ds hs : List Int} {l : Int} (h1 : bs.length = am.length) (h2 : ds.length = am.length) (h3 : am ≠ []) : hauls l am bs ds = hs ++ [0] ↔ (hauls l am bs ds).dropLast = hs ∧ l + tot am bs ds = 0 := by
  have hl := hauls_last (l := l) h1 h2 h3
  constructor
  · intro h
    rw [h] at hl ⊢
    simp at hl ⊢
    exact hl.symm
  · rintro ⟨rfl, h⟩
    rw [h] at hl
    obtain ⟨ys, e⟩ := List.getLast?_eq_some_iff.mp hl
    rw [e]
    simp
def okp (p : (Option Int × Option Int) × Int × Int) : Bool := !decide (p.2.1 < 0) && !decide (p.2.2 < 0) && (p.1.1.isSome || !decide (0 < p.2.1)) && (p.1.2.isSome || !decide (0 < p.2.2))
theorem okp_all : ∀ {tp : List (Option Int × Option Int)} {bs ds : List Int}, bs.length = tp.length → ds.length = tp.length → (tp.zip (bs.zip ds)).all okp = (kept Prod.fst tp bs && kept Prod.snd tp ds)
  | [], _, _, _, _ => by simp [kept]
  | t :: tp, b :: bs, d :: ds, h1, h2 => by
    have ih := okp_all (tp := tp) (bs := bs) (ds := ds) (by simpa using h1) (by simpa using h2)
    have e1 : kept Prod.fst (t :: tp) (b :: bs) = ((decide (0 ≤ b) && (t.1.isSome || decide (b = 0))) && kept Prod.fst tp bs) := by simp [kept]
    have e2 : kept Prod.snd (t :: tp) (d :: ds) = ((decide (0 ≤ d) && (t.2.isSome || decide (d = 0))) && kept Prod.snd tp ds) := by simp [kept]
    rw [List.zip_cons_cons, List.zip_cons_cons, List.all_cons, ih, e1, e2]
    have e3 : okp (t, b, d) = ((decide (0 ≤ b) && (t.1.isSome || decide (b = 0))) && (decide (0 ≤ d) && (t.2.isSome || decide (d = 0)))) := by
      unfold okp
      simp only
      by_cases h1 : 0 ≤ b
      · by_cases h2 : 0 ≤ d
        · have e1 : (!decide (0 < b)) = decide (b = 0) := by
            by_cases hb : b = 0
            · subst hb; rfl
            · rw [decide_eq_true (show 0 < b by omega), decide_eq_false hb]; rfl
          have e2 : (!decide (0 < d)) = decide (d = 0) := by
            by_cases hb : d = 0
            · subst hb; rfl
            · rw [decide_eq_true (show 0 < d by omega), decide_eq_false hb]; rfl
          rw [e1, e2, decide_eq_true h1, decide_eq_true h2, decide_eq_false (show ¬ b < 0 by omega), decide_eq_false (show ¬ d < 0 by omega)]
          simp
        · rw [decide_eq_false h2, decide_eq_true (show d < 0 by omega)]
          simp
      · rw [decide_eq_false h1, decide_eq_true (show b < 0 by omega)]
        simp
    rw [e3]
    cases (decide (0 ≤ b) && (t.1.isSome || decide (b = 0))) <;> cases (decide (0 ≤ d) && (t.2.isSome || decide (d = 0))) <;> simp
theorem isPlan_parts {e : E} {a b c : PyData} (h : isPlan e (.tuple [a, b, c]) = true) : ∃ hs bs ds : List Int, a = .tuple (hs.map PyData.int) ∧ b = .tuple (bs.map PyData.int) ∧ c = .tuple (ds.map PyData.int) ∧ isPlanR e hs bs ds = true := by
  obtain ⟨hs, bs, ds, e1, h2⟩ := isPlan_inv h
  unfold plD at e1
  simp only [PyData.tuple.injEq, List.cons.injEq, and_true] at e1
  exact ⟨hs, bs, ds, e1.1, e1.2.1, e1.2.2, h2⟩
theorem isPlanR_len {e : E} {hs bs ds : List Int} (h : isPlanR e hs bs ds = true) : hs.length + 1 = e.am.length ∧ bs.length = e.am.length ∧ ds.length = e.am.length := by
  simp only [isPlanR, Bool.and_eq_true, decide_eq_true_eq] at h
  exact ⟨h.1.1.1.1.1, h.1.1.1.1.2, h.1.1.1.2⟩
def gap3 (p : (Int × Int) × Int × Int) : Bool := !decide (p.1.1 < p.2.2 - p.2.1) && !decide (p.1.2 < p.2.1 - p.2.2)
theorem gap3_all : ∀ {wy : List (Int × Int)} {ps : List Int}, ps.length = wy.length + 1 → (wy.zip (ps.zip (ps.drop 1))).all gap3 = gapsOk wy ps
  | [], ps, h => by
    match ps, h with
    | [p], _ => rfl
  | w :: wy, ps, h => by
    match ps, h with
    | p :: q :: ps, h =>
      have ih := gap3_all (wy := wy) (ps := q :: ps) (by simpa using h)
      simp only [List.drop_succ_cons, List.drop_zero] at ih ⊢
      rw [List.zip_cons_cons, List.zip_cons_cons, List.all_cons, ih]
      simp only [gapsOk, gap3]
      congr 1
      by_cases h1 : 0 - w.2 ≤ q - p
      · by_cases h2 : q - p ≤ w.1
        · rw [decide_eq_true h1, decide_eq_true h2, decide_eq_false (show ¬ w.1 < q - p by omega), decide_eq_false (show ¬ w.2 < p - q by omega)]; rfl
        · rw [decide_eq_true h1, decide_eq_false h2, decide_eq_true (show w.1 < q - p by omega)]; rfl
      · rw [decide_eq_false h1, decide_eq_true (show w.2 < p - q by omega)]; simp
def tip2 (p : (Option Int × Option Int) × Int) : Bool := (match p.1.1 with
  | some b => !decide (b < p.2)
  | none => true) && (match p.1.2 with
  | some d => !decide (p.2 < -d)
  | none => true)
theorem tip2_eq (t : Option Int × Option Int) (p : Int) : tip2 (t, p) = tipOk t p := by
  obtain ⟨a, b⟩ := t
  have e1 : ∀ x : Int, (!decide (x < p)) = decide (p ≤ x) := fun x => by
    by_cases h : x < p
    · rw [decide_eq_true h, decide_eq_false (show ¬ p ≤ x by omega)]; rfl
    · rw [decide_eq_false h, decide_eq_true (show p ≤ x by omega)]; rfl
  have e2 : ∀ x : Int, (!decide (p < -x)) = decide (0 - x ≤ p) := fun x => by
    by_cases h : p < -x
    · rw [decide_eq_true h, decide_eq_false (show ¬ 0 - x ≤ p by omega)]; rfl
    · rw [decide_eq_false h, decide_eq_true (show 0 - x ≤ p by omega)]; rfl
  cases a <;> cases b <;> simp [tip2, tipOk, e1, e2]
theorem tip2_all : ∀ {tp : List (Option Int × Option Int)} {ps : List Int}, (tp.zip ps).all tip2 = (ps.zip tp).all fun q => tipOk q.2 q.1
  | [], ps => by cases ps <;> rfl
  | t :: tp, [] => rfl
  | t :: tp, p :: ps => by
    rw [List.zip_cons_cons, List.zip_cons_cons, List.all_cons, List.all_cons, tip2_all, tip2_eq]
theorem sum_neg : ∀ xs : List (Int × Int), (xs.map fun p => -(p.1 * p.2)).sum = -((xs.map fun p => p.1 * p.2).sum)
  | [] => rfl
  | x :: xs => by
    rw [List.map_cons, List.map_cons, List.sum_cons, List.sum_cons, sum_neg xs]
    omega
theorem arePricesR_len {e : E} {ps : List Int} (h : arePricesR e ps = true) : ps.length = e.am.length := by
  simp only [arePricesR, Bool.and_eq_true, decide_eq_true_eq] at h
  exact h.1.1
def estep (s : Int × List Int × List Int) (p : (Option Int × Option Int) × Nat) : Int × List Int × List Int :=
  if 0 < s.1 ∧ p.1.2.isSome = true then (0, s.2.1, s.2.2.set p.2 (s.2.2.getD p.2 0 + s.1)) else if s.1 < 0 ∧ p.1.1.isSome = true then (0, s.2.1.set p.2 (s.2.1.getD p.2 0 - s.1), s.2.2) else s
def evenOk (tp : List (Option Int × Option Int)) (r : Int) : Prop := r = 0 ∨ (0 < r ∧ ∃ t ∈ tp, t.2.isSome = true) ∨ (r < 0 ∧ ∃ t ∈ tp, t.1.isSome = true)
theorem estep_zero : ∀ {ps : List ((Option Int × Option Int) × Nat)} {s : Int × List Int × List Int}, s.1 = 0 → (ps.foldl estep s).1 = 0
  | [], _, h => h
  | p :: ps, s, h => by
    rw [List.foldl_cons]
    refine estep_zero ?_
    unfold estep
    rw [if_neg (by omega), if_neg (by omega)]
    exact h
theorem estep_rest : ∀ {tp : List (Option Int × Option Int)} {k : Nat} {s : Int × List Int × List Int}, (evenOk tp s.1 → ((tp.zipIdx k).foldl estep s).1 = 0) ∧ (¬ evenOk tp s.1 → ((tp.zipIdx k).foldl estep s).1 ≠ 0)
  | [], k, s => by
    refine ⟨fun h => ?_, fun h => ?_⟩
    · rcases h with h | ⟨_, t, ht, _⟩ | ⟨_, t, ht, _⟩
      · exact h
      · simp at ht
      · simp at ht
    · intro h2
      exact h (.inl h2)
  | t :: tp, k, s => by
    rw [List.zipIdx_cons, List.foldl_cons]
    by_cases h1 : 0 < s.1 ∧ t.2.isSome = true
    · have e : (estep s (t, k)).1 = 0 := by unfold estep; rw [if_pos h1]
      exact ⟨fun _ => estep_zero e, fun h => (h (.inr (.inl ⟨h1.1, t, by simp, h1.2⟩))).elim⟩
    · by_cases h2 : s.1 < 0 ∧ t.1.isSome = true
      · have e : (estep s (t, k)).1 = 0 := by unfold estep; rw [if_neg h1, if_pos h2]
        exact ⟨fun _ => estep_zero e, fun h => (h (.inr (.inr ⟨h2.1, t, by simp, h2.2⟩))).elim⟩
      · have e : estep s (t, k) = s := by unfold estep; rw [if_neg h1, if_neg h2]
        rw [e]
        have ih := estep_rest (tp := tp) (k := k + 1) (s := s)
        have : evenOk (t :: tp) s.1 ↔ evenOk tp s.1 := by
          unfold evenOk
          constructor
          · rintro (h | ⟨h, u, hu, q⟩ | ⟨h, u, hu, q⟩)
            · exact .inl h
            · rcases List.mem_cons.mp hu with rfl | hu
              · exact absurd ⟨h, q⟩ h1
              · exact .inr (.inl ⟨h, u, hu, q⟩)
            · rcases List.mem_cons.mp hu with rfl | hu
              · exact absurd ⟨h, q⟩ h2
              · exact .inr (.inr ⟨h, u, hu, q⟩)
          · rintro (h | ⟨h, u, hu, q⟩ | ⟨h, u, hu, q⟩)
            · exact .inl h
            · exact .inr (.inl ⟨h, u, by simp [hu], q⟩)
            · exact .inr (.inr ⟨h, u, by simp [hu], q⟩)
        rw [this]
        exact ih
structure EB (b c n : Nat) (s : Int × List Int × List Int) : Prop where
  lb : s.2.1.length = n
  ld : s.2.2.length = n
  bd : (s.1.natAbs ≤ c ∧ (∀ x ∈ s.2.1, x.natAbs ≤ b) ∧ ∀ x ∈ s.2.2, x.natAbs ≤ b) ∨ (s.1 = 0 ∧ (∀ x ∈ s.2.1, x.natAbs ≤ b + c) ∧ ∀ x ∈ s.2.2, x.natAbs ≤ b + c)
theorem getD_bd {b : Nat} {xs : List Int} {i : Nat} (h : ∀ x ∈ xs, x.natAbs ≤ b) : (xs.getD i 0).natAbs ≤ b := by
  rw [List.getD_eq_getElem?_getD]
  cases e : xs[i]? with
  | none => simp
  | some x => exact h x (List.mem_of_getElem? e)
theorem set_bd {b : Nat} {xs : List Int} {i : Nat} {y : Int} (h : ∀ x ∈ xs, x.natAbs ≤ b) (hy : y.natAbs ≤ b) : ∀ x ∈ xs.set i y, x.natAbs ≤ b := fun x hx => by
  rcases List.mem_or_eq_of_mem_set hx with h1 | h1
  · exact h x h1
  · rw [h1]; exact hy
theorem estep_EB {b c n : Nat} {s : Int × List Int × List Int} {p : (Option Int × Option Int) × Nat} (h : EB b c n s) : EB b c n (estep s p) := by
  obtain ⟨h1, h2, h3⟩ := h
  unfold estep
  split
  · rename_i hc
    refine ⟨h1, by simpa using h2, .inr ⟨rfl, ?_⟩⟩
    rcases h3 with ⟨q1, q2, q3⟩ | ⟨q1, _⟩
    · have := getD_bd (i := p.2) q3
      exact ⟨fun x hx => by have := q2 x hx; omega, set_bd (fun x hx => by have := q3 x hx; omega) (by omega)⟩
    · omega
  · split
    · rename_i hc
      refine ⟨by simpa using h1, h2, .inr ⟨rfl, ?_⟩⟩
      rcases h3 with ⟨q1, q2, q3⟩ | ⟨q1, _⟩
      · have := getD_bd (i := p.2) q2
        exact ⟨set_bd (fun x hx => by have := q2 x hx; omega) (by omega), fun x hx => by have := q3 x hx; omega⟩
      · omega
    · exact ⟨h1, h2, h3⟩
theorem estep_EBs {b c n : Nat} : ∀ {ps : List ((Option Int × Option Int) × Nat)} {s : Int × List Int × List Int}, EB b c n s → EB b c n (ps.foldl estep s)
  | [], _, h => h
  | p :: ps, s, h => estep_EBs (ps := ps) (estep_EB h)
theorem EB.all {b c n : Nat} {s : Int × List Int × List Int} (h : EB b c n s) : (∀ x ∈ s.2.1, x.natAbs ≤ b + c) ∧ ∀ x ∈ s.2.2, x.natAbs ≤ b + c := by
  rcases h.bd with ⟨_, q2, q3⟩ | ⟨_, q⟩
  · exact ⟨fun x hx => by have := q2 x hx; omega, fun x hx => by have := q3 x hx; omega⟩
  · exact q
theorem hauls_bd {A B : Nat} : ∀ {am bs ds : List Int} {l : Int}, (∀ x ∈ am, x.natAbs ≤ A) → (∀ x ∈ bs, x.natAbs ≤ B) → (∀ x ∈ ds, x.natAbs ≤ B) → ∀ x ∈ hauls l am bs ds, x.natAbs ≤ l.natAbs + am.length * (A + B + B)
  | [], _, _, _, _, _, _, x, hx => by simp [hauls] at hx
  | _ :: _, [], _, _, _, _, _, x, hx => by simp [hauls] at hx
  | _ :: _, _ :: _, [], _, _, _, _, x, hx => by simp [hauls] at hx
  | a :: am, b :: bs, d :: ds, l, h1, h2, h3, x, hx => by
    simp only [hauls, List.mem_cons] at hx
    have g1 := h1 a (by simp)
    have g2 := h2 b (by simp)
    have g3 := h3 d (by simp)
    rw [List.length_cons, Nat.add_mul]
    rcases hx with rfl | hx
    · omega
    · have := hauls_bd (fun y hy => h1 y (by simp [hy])) (fun y hy => h2 y (by simp [hy])) (fun y hy => h3 y (by simp [hy])) x hx
      omega
end Er

end
section
set_option maxHeartbeats 2000000
/-! K91T: the terms of the law's defs (printed). -/
namespace K91
open PySem Mi Pl Er

def nm : List Str := [("is_list" : Str), ("is_integer" : Str), ("is_count" : Str), ("is_position" : Str), ("pair_is_right" : Str), ("earth_is_right" : Str), ("is_row" : Str), ("tips_are_kept" : Str), ("plan_is_right" : Str), ("check_earth" : Str), ("check_plan" : Str), ("cost_of" : Str), ("gives_and_takes" : Str), ("table_of" : Str), ("entry_is_right" : Str), ("table_is_right" : Str), ("way_of" : Str), ("line_of" : Str), ("shifted_cost" : Str), ("cost" : Str), ("table" : Str), ("is_table" : Str), ("table_cost" : Str), ("line" : Str), ("balance" : Str), ("_law_pot" : Str), ("_law_draw" : Str), ("_law_pick" : Str), ("_law_earth" : Str), ("_law_hauled" : Str), ("_law_hauls" : Str), ("_law_plan" : Str), ("_law_ends" : Str), ("_law_table" : Str), ("_law_is_int" : Str), ("_law_is_table" : Str), ("_law_table_cost" : Str), ("_law_tips_cost" : Str), ("_law_bent" : Str), ("_law_lines_right" : Str), ("_law_right" : Str), ("_law_great" : Str), ("law" : Str)]
def fr : List Str := [("abs" : Str), ("all" : Str), ("bool" : Str), ("divmod" : Str), ("enumerate" : Str), ("int" : Str), ("isinstance" : Str), ("len" : Str), ("list" : Str), ("max" : Str), ("min" : Str), ("range" : Str), ("repr" : Str), ("sorted" : Str), ("str" : Str), ("sum" : Str), ("tuple" : Str), ("zip" : Str)]
def gl : List (Str × PyData) := [("MOST_PLACES", .int 10), ("MOST_AMOUNT", .int 99), ("MOST_WAY", .int 99), ("MOST_TIP", .int 999)]
@[simp] theorem gl_MOST_PLACES : gl[0]? = some (("MOST_PLACES" : Str), (.int 10 : PyData)) := (rfl)
@[simp] theorem gl_MOST_AMOUNT : gl[1]? = some (("MOST_AMOUNT" : Str), (.int 99 : PyData)) := (rfl)
@[simp] theorem gl_MOST_WAY : gl[2]? = some (("MOST_WAY" : Str), (.int 99 : PyData)) := (rfl)
@[simp] theorem gl_MOST_TIP : gl[3]? = some (("MOST_TIP" : Str), (.int 999 : PyData)) := (rfl)
def kwt : List (Nat × Nat × List Str × List Nat) := [(20, 0, ["plan", "earth"], [1, 0]), (21, 0, ["value", "plan", "earth"], [2, 1, 0]), (22, 0, ["value", "plan", "earth"], [2, 1, 0]), (23, 0, ["earth"], [0]), (24, 0, ["earth"], [0])]
def N_is_list : List Str := [("value" : Str)]
abbrev i_is_list : Nat := 0
def s_is_list : S := .sq (.ret (.isi (.var 0) ["list", "tuple"])) (.nop)
def N_is_integer : List Str := [("value" : Str)]
abbrev i_is_integer : Nat := 1
def s_is_integer : S := .sq (.ret (.and (.isi (.var 0) ["int"]) (.not (.isi (.var 0) ["bool"])))) (.nop)
def N_is_count : List Str := [("value" : Str)]
abbrev i_is_count : Nat := 2
def s_is_count : S := .sq (.ret (.and (.call 1 (.cons (.var 0) (.nil))) (.cmp .ge (.var 0) (.con (.int 0))))) (.nop)
def N_is_position : List Str := [("value" : Str), ("many" : Str)]
abbrev i_is_position : Nat := 3
def s_is_position : S := .sq (.ret (.and (.call 2 (.cons (.var 0) (.nil))) (.cmp .lt (.var 0) (.var 1)))) (.nop)
def N_pair_is_right : List Str := [("value" : Str), ("most" : Str), ("with_none" : Str), ("one" : Str)]
abbrev i_pair_is_right : Nat := 4
def s_pair_is_right : S := .sq (.ite (.or (.not (.isi (.var 0) ["tuple"])) (.cmp .ne (.bi .len (.cons (.var 0) (.nil))) (.con (.int 2)))) (.sq (.ret (.con (.bool false))) (.nop)) (.nop)) (.sq (.ret (.bi .all (.cons (.lc (.or (.and (.cmp .is_ (.var 3) (.con .none)) (.var 2)) (.and (.call 2 (.cons (.var 3) (.nil))) (.cmp .le (.var 3) (.var 1)))) (.nm 3) .seq (.var 0) (.con (.bool true)) [("one", 3)]) (.nil)))) (.nop))
def N_earth_is_right : List Str := [("value" : Str), ("amounts" : Str), ("ways" : Str), ("tips" : Str), ("tip" : Str), ("one" : Str), ("way" : Str)]
abbrev i_earth_is_right : Nat := 5
def s_earth_is_right : S := .sq (.ite (.or (.not (.isi (.var 0) ["tuple"])) (.or (.cmp .ne (.bi .len (.cons (.var 0) (.nil))) (.con (.int 4))) (.or (.not (.isi (.idx (.var 0) (.con (.int 0))) ["str"])) (.cmp .ne (.idx (.var 0) (.con (.int 0))) (.con (.str "earth")))))) (.sq (.ret (.con (.bool false))) (.nop)) (.nop)) (.sq (.set (.tp (.cons (.nm 1) (.cons (.nm 2) (.cons (.nm 3) (.nil))))) (.slc (.var 0) (.con (.int 1)) (.nil))) (.sq (.ite (.or (.not (.isi (.var 1) ["tuple"])) (.not (.cmp2 .le .le (.con (.int 1)) (.bi .len (.cons (.var 1) (.nil))) (.glo 0)))) (.sq (.ret (.con (.bool false))) (.nop)) (.nop)) (.sq (.ite (.not (.bi .all (.cons (.lc (.and (.call 1 (.cons (.var 5) (.nil))) (.cmp .le (.bi .abs (.cons (.var 5) (.nil))) (.glo 1))) (.nm 5) .seq (.var 1) (.con (.bool true)) [("one", 5)]) (.nil)))) (.sq (.ret (.con (.bool false))) (.nop)) (.nop)) (.sq (.ite (.or (.not (.isi (.var 2) ["tuple"])) (.cmp .ne (.bi .len (.cons (.var 2) (.nil))) (.bin .sub (.bi .len (.cons (.var 1) (.nil))) (.con (.int 1))))) (.sq (.ret (.con (.bool false))) (.nop)) (.nop)) (.sq (.ite (.not (.bi .all (.cons (.lc (.call 4 (.cons (.var 6) (.cons (.glo 2) (.cons (.con (.bool false)) (.nil))))) (.nm 6) .seq (.var 2) (.con (.bool true)) [("way", 6)]) (.nil)))) (.sq (.ret (.con (.bool false))) (.nop)) (.nop)) (.sq (.ite (.or (.not (.isi (.var 3) ["tuple"])) (.cmp .ne (.bi .len (.cons (.var 3) (.nil))) (.bi .len (.cons (.var 1) (.nil))))) (.sq (.ret (.con (.bool false))) (.nop)) (.nop)) (.sq (.ret (.bi .all (.cons (.lc (.call 4 (.cons (.var 4) (.cons (.glo 3) (.cons (.con (.bool true)) (.nil))))) (.nm 4) .seq (.var 3) (.con (.bool true)) [("tip", 4)]) (.nil)))) (.nop))))))))
def N_is_row : List Str := [("value" : Str), ("many" : Str), ("one" : Str)]
abbrev i_is_row : Nat := 6
def s_is_row : S := .sq (.ret (.and (.isi (.var 0) ["tuple"]) (.and (.cmp .eq (.bi .len (.cons (.var 0) (.nil))) (.var 1)) (.bi .all (.cons (.lc (.call 1 (.cons (.var 2) (.nil))) (.nm 2) .seq (.var 0) (.con (.bool true)) [("one", 2)]) (.nil)))))) (.nop)
def N_tips_are_kept : List Str := [("tips" : Str), ("numbers" : Str), ("at" : Str), ("tip" : Str), ("one" : Str)]
abbrev i_tips_are_kept : Nat := 7
def s_tips_are_kept : S := .sq (.ret (.bi .all (.cons (.lc (.and (.cmp .ge (.var 4) (.con (.int 0))) (.or (.cmp .isnt (.idx (.var 3) (.var 2)) (.con .none)) (.cmp .eq (.var 4) (.con (.int 0))))) (.tp (.cons (.nm 3) (.cons (.nm 4) (.nil)))) .zip (.cons (.var 0) (.cons (.var 1) (.nil))) (.con (.bool true)) [("tip", 3), ("one", 4)]) (.nil)))) (.nop)
def N_plan_is_right : List Str := [("earth" : Str), ("value" : Str), ("left" : Str), ("word" : Str), ("amounts" : Str), ("ways" : Str), ("tips" : Str), ("place" : Str), ("amount" : Str)]
abbrev i_plan_is_right : Nat := 8
def s_plan_is_right : S := .sq (.set (.tp (.cons (.nm 3) (.cons (.nm 4) (.cons (.nm 5) (.cons (.nm 6) (.nil)))))) (.var 0)) (.sq (.ite (.or (.not (.isi (.var 1) ["tuple"])) (.or (.cmp .ne (.bi .len (.cons (.var 1) (.nil))) (.con (.int 3))) (.not (.call 6 (.cons (.idx (.var 1) (.con (.int 0))) (.cons (.bi .len (.cons (.var 5) (.nil))) (.nil))))))) (.sq (.ret (.con (.bool false))) (.nop)) (.nop)) (.sq (.ite (.or (.not (.call 6 (.cons (.idx (.var 1) (.con (.int 1))) (.cons (.bi .len (.cons (.var 4) (.nil))) (.nil))))) (.not (.call 6 (.cons (.idx (.var 1) (.con (.int 2))) (.cons (.bi .len (.cons (.var 4) (.nil))) (.nil)))))) (.sq (.ret (.con (.bool false))) (.nop)) (.nop)) (.sq (.ite (.or (.not (.call 7 (.cons (.var 6) (.cons (.idx (.var 1) (.con (.int 1))) (.cons (.con (.int 0)) (.nil)))))) (.not (.call 7 (.cons (.var 6) (.cons (.idx (.var 1) (.con (.int 2))) (.cons (.con (.int 1)) (.nil))))))) (.sq (.ret (.con (.bool false))) (.nop)) (.nop)) (.sq (.set (.nm 2) (.con (.int 0))) (.sq (.for_ (.tp (.cons (.nm 7) (.cons (.nm 8) (.nil)))) .enm (.var 4) (.sq (.set (.nm 2) (.bin .sub (.bin .add (.bin .add (.var 2) (.var 8)) (.idx (.idx (.var 1) (.con (.int 1))) (.var 7))) (.idx (.idx (.var 1) (.con (.int 2))) (.var 7)))) (.sq (.ite (.cmp .ne (.var 2) (.ife (.cmp .lt (.var 7) (.bi .len (.cons (.var 5) (.nil)))) (.idx (.idx (.var 1) (.con (.int 0))) (.var 7)) (.con (.int 0)))) (.sq (.ret (.con (.bool false))) (.nop)) (.nop)) (.nop)))) (.sq (.ret (.con (.bool true))) (.nop)))))))
def N_check_earth : List Str := [("earth" : Str)]
abbrev i_check_earth : Nat := 9
def s_check_earth : S := .sq (.ite (.not (.call 5 (.cons (.var 0) (.nil)))) (.sq (.dead) (.nop)) (.nop)) (.nop)
def N_check_plan : List Str := [("earth" : Str), ("plan" : Str)]
abbrev i_check_plan : Nat := 10
def s_check_plan : S := .sq (.ex (.call 9 (.cons (.var 0) (.nil)))) (.sq (.ite (.not (.call 8 (.cons (.var 0) (.cons (.var 1) (.nil))))) (.sq (.dead) (.nop)) (.nop)) (.nop))
def N_cost_of : List Str := [("earth" : Str), ("plan" : Str), ("whole" : Str), ("tip" : Str), ("more" : Str), ("less" : Str), ("one" : Str), ("there" : Str), ("back" : Str)]
abbrev i_cost_of : Nat := 11
def s_cost_of : S := .sq (.set (.nm 2) (.bi .sum (.cons (.lc (.bin .add (.bin .mul (.var 7) (.bi .max2 (.cons (.con (.int 0)) (.cons (.var 6) (.nil))))) (.bin .mul (.var 8) (.bi .max2 (.cons (.con (.int 0)) (.cons (.bin .sub (.con (.int 0)) (.var 6)) (.nil)))))) (.tp (.cons (.tp (.cons (.nm 7) (.cons (.nm 8) (.nil)))) (.cons (.nm 6) (.nil)))) .zip (.cons (.idx (.var 0) (.con (.int 2))) (.cons (.idx (.var 1) (.con (.int 0))) (.nil))) (.con (.bool true)) [("one", 6), ("there", 7), ("back", 8)]) (.nil)))) (.sq (.for_ (.tp (.cons (.nm 3) (.cons (.nm 4) (.cons (.nm 5) (.nil))))) .zip (.cons (.idx (.var 0) (.con (.int 3))) (.cons (.idx (.var 1) (.con (.int 1))) (.cons (.idx (.var 1) (.con (.int 2))) (.nil)))) (.sq (.aug 2 .add (.bin .add (.ife (.cmp .gt (.var 4) (.con (.int 0))) (.bin .mul (.idx (.var 3) (.con (.int 0))) (.var 4)) (.con (.int 0))) (.ife (.cmp .gt (.var 5) (.con (.int 0))) (.bin .mul (.idx (.var 3) (.con (.int 1))) (.var 5)) (.con (.int 0))))) (.nop))) (.sq (.ret (.var 2)) (.nop)))
def N_gives_and_takes : List Str := [("earth" : Str), ("plan" : Str), ("gives" : Str), ("takes" : Str), ("amount" : Str), ("more" : Str), ("less" : Str)]
abbrev i_gives_and_takes : Nat := 12
def s_gives_and_takes : S := .sq (.set (.tp (.cons (.nm 2) (.cons (.nm 3) (.nil)))) (.tup (.cons (.lst (.nil)) (.cons (.lst (.nil)) (.nil))))) (.sq (.for_ (.tp (.cons (.nm 4) (.cons (.nm 5) (.cons (.nm 6) (.nil))))) .zip (.cons (.idx (.var 0) (.con (.int 1))) (.cons (.idx (.var 1) (.con (.int 1))) (.cons (.idx (.var 1) (.con (.int 2))) (.nil)))) (.sq (.ex (.app (.var 2) (.bin .add (.bi .max2 (.cons (.con (.int 0)) (.cons (.var 4) (.nil)))) (.var 5)))) (.sq (.ex (.app (.var 3) (.bin .add (.bi .max2 (.cons (.con (.int 0)) (.cons (.bin .sub (.con (.int 0)) (.var 4)) (.nil)))) (.var 6)))) (.nop)))) (.sq (.ret (.tup (.cons (.var 2) (.cons (.var 3) (.nil))))) (.nop)))
def N_table_of : List Str := [("earth" : Str), ("plan" : Str), ("gives" : Str), ("takes" : Str), ("found" : Str), ("one" : Str), ("other" : Str), ("amount" : Str)]
abbrev i_table_of : Nat := 13
def s_table_of : S := .sq (.set (.tp (.cons (.nm 2) (.cons (.nm 3) (.nil)))) (.call 12 (.cons (.var 0) (.cons (.var 1) (.nil))))) (.sq (.set (.tp (.cons (.nm 4) (.cons (.nm 5) (.cons (.nm 6) (.nil))))) (.tup (.cons (.lst (.nil)) (.cons (.con (.int 0)) (.cons (.con (.int 0)) (.nil)))))) (.sq (.whl (.and (.cmp .lt (.var 5) (.bi .len (.cons (.var 2) (.nil)))) (.cmp .lt (.var 6) (.bi .len (.cons (.var 3) (.nil))))) (.sq (.set (.nm 7) (.bi .min2 (.cons (.idx (.var 2) (.var 5)) (.cons (.idx (.var 3) (.var 6)) (.nil))))) (.sq (.ite (.cmp .gt (.var 7) (.con (.int 0))) (.sq (.ex (.app (.var 4) (.tup (.cons (.var 5) (.cons (.var 6) (.cons (.var 7) (.nil))))))) (.nop)) (.nop)) (.sq (.set (.tp (.cons (.sb (.var 2) (.var 5)) (.cons (.sb (.var 3) (.var 6)) (.nil)))) (.tup (.cons (.bin .sub (.idx (.var 2) (.var 5)) (.var 7)) (.cons (.bin .sub (.idx (.var 3) (.var 6)) (.var 7)) (.nil))))) (.sq (.ite (.cmp .eq (.idx (.var 2) (.var 5)) (.con (.int 0))) (.sq (.aug 5 .add (.con (.int 1))) (.nop)) (.sq (.aug 6 .add (.con (.int 1))) (.nop))) (.nop)))))) (.sq (.ret (.var 4)) (.nop))))
def N_entry_is_right : List Str := [("value" : Str), ("many" : Str)]
abbrev i_entry_is_right : Nat := 14
def s_entry_is_right : S := .sq (.ite (.or (.not (.isi (.var 0) ["tuple"])) (.or (.cmp .ne (.bi .len (.cons (.var 0) (.nil))) (.con (.int 3))) (.or (.not (.call 2 (.cons (.idx (.var 0) (.con (.int 2))) (.nil)))) (.cmp .eq (.idx (.var 0) (.con (.int 2))) (.con (.int 0)))))) (.sq (.ret (.con (.bool false))) (.nop)) (.nop)) (.sq (.ret (.and (.call 3 (.cons (.idx (.var 0) (.con (.int 0))) (.cons (.var 1) (.nil)))) (.call 3 (.cons (.idx (.var 0) (.con (.int 1))) (.cons (.var 1) (.nil)))))) (.nop))
def N_table_is_right : List Str := [("earth" : Str), ("plan" : Str), ("value" : Str), ("many" : Str), ("place" : Str), ("gives" : Str), ("takes" : Str), ("one" : Str), ("other" : Str)]
abbrev i_table_is_right : Nat := 15
def s_table_is_right : S := .sq (.set (.nm 3) (.bi .len (.cons (.idx (.var 0) (.con (.int 1))) (.nil)))) (.sq (.ite (.or (.not (.call 0 (.cons (.var 2) (.nil)))) (.not (.bi .all (.cons (.lc (.call 14 (.cons (.var 7) (.cons (.var 3) (.nil)))) (.nm 7) .seq (.var 2) (.con (.bool true)) [("one", 7)]) (.nil))))) (.sq (.ret (.con (.bool false))) (.nop)) (.nop)) (.sq (.ite (.not (.bi .all (.cons (.lc (.cmp .lt (.slc (.var 7) (.nil) (.con (.int 2))) (.slc (.var 8) (.nil) (.con (.int 2)))) (.tp (.cons (.nm 7) (.cons (.nm 8) (.nil)))) .zip (.cons (.var 2) (.cons (.slc (.var 2) (.con (.int 1)) (.nil)) (.nil))) (.con (.bool true)) [("one", 7), ("other", 8)]) (.nil)))) (.sq (.ret (.con (.bool false))) (.nop)) (.nop)) (.sq (.set (.tp (.cons (.nm 5) (.cons (.nm 6) (.nil)))) (.call 12 (.cons (.var 0) (.cons (.var 1) (.nil))))) (.sq (.for_ (.nm 4) .rng (.cons (.var 3) (.nil)) (.sq (.ite (.cmp .ne (.bi .sum (.cons (.lc (.idx (.var 7) (.con (.int 2))) (.nm 7) .seq (.var 2) (.cmp .eq (.idx (.var 7) (.con (.int 0))) (.var 4)) [("one", 7)]) (.nil))) (.idx (.var 5) (.var 4))) (.sq (.ret (.con (.bool false))) (.nop)) (.nop)) (.sq (.ite (.cmp .ne (.bi .sum (.cons (.lc (.idx (.var 7) (.con (.int 2))) (.nm 7) .seq (.var 2) (.cmp .eq (.idx (.var 7) (.con (.int 1))) (.var 4)) [("one", 7)]) (.nil))) (.idx (.var 6) (.var 4))) (.sq (.ret (.con (.bool false))) (.nop)) (.nop)) (.nop)))) (.sq (.ret (.con (.bool true))) (.nop))))))
def N_way_of : List Str := [("earth" : Str), ("one" : Str), ("other" : Str), ("there" : Str), ("back" : Str)]
abbrev i_way_of : Nat := 16
def s_way_of : S := .sq (.ite (.cmp .le (.var 1) (.var 2)) (.sq (.ret (.bi .sum (.cons (.lc (.var 3) (.tp (.cons (.nm 3) (.cons (.nm 4) (.nil)))) .seq (.slc (.idx (.var 0) (.con (.int 2))) (.var 1) (.var 2)) (.con (.bool true)) [("there", 3), ("back", 4)]) (.nil)))) (.nop)) (.nop)) (.sq (.ret (.bi .sum (.cons (.lc (.var 4) (.tp (.cons (.nm 3) (.cons (.nm 4) (.nil)))) .seq (.slc (.idx (.var 0) (.con (.int 2))) (.var 2) (.var 1)) (.con (.bool true)) [("there", 3), ("back", 4)]) (.nil)))) (.nop))
def N_line_of : List Str := [("earth" : Str), ("gap" : Str)]
abbrev i_line_of : Nat := 17
def s_line_of : S := .sq (.ret (.lc (.bi .sum (.cons (.slc (.idx (.var 0) (.con (.int 1))) (.nil) (.bin .add (.var 1) (.con (.int 1)))) (.nil))) (.nm 1) .rng (.cons (.bi .len (.cons (.idx (.var 0) (.con (.int 2))) (.nil))) (.nil)) (.con (.bool true)) [("gap", 1)])) (.nop)
def N_shifted_cost : List Str := [("earth" : Str), ("number" : Str), ("some" : Str), ("one" : Str), ("there" : Str), ("back" : Str)]
abbrev i_shifted_cost : Nat := 18
def s_shifted_cost : S := .sq (.set (.nm 2) (.lc (.bin .add (.var 3) (.var 1)) (.nm 3) .seq (.call 17 (.cons (.var 0) (.nil))) (.con (.bool true)) [("one", 3)])) (.sq (.ret (.bi .sum (.cons (.lc (.bin .add (.bin .mul (.var 4) (.bi .max2 (.cons (.con (.int 0)) (.cons (.var 3) (.nil))))) (.bin .mul (.var 5) (.bi .max2 (.cons (.con (.int 0)) (.cons (.bin .sub (.con (.int 0)) (.var 3)) (.nil)))))) (.tp (.cons (.tp (.cons (.nm 4) (.cons (.nm 5) (.nil)))) (.cons (.nm 3) (.nil)))) .zip (.cons (.idx (.var 0) (.con (.int 2))) (.cons (.var 2) (.nil))) (.con (.bool true)) [("one", 3), ("there", 4), ("back", 5)]) (.nil)))) (.nop))
def N_cost : List Str := [("earth" : Str), ("plan" : Str)]
abbrev i_cost : Nat := 19
def s_cost : S := .sq (.ex (.call 10 (.cons (.var 0) (.cons (.var 1) (.nil))))) (.sq (.ret (.call 11 (.cons (.var 0) (.cons (.var 1) (.nil))))) (.nop))
def N_table : List Str := [("earth" : Str), ("plan" : Str)]
abbrev i_table : Nat := 20
def s_table : S := .sq (.ex (.call 10 (.cons (.var 0) (.cons (.var 1) (.nil))))) (.sq (.ret (.call 13 (.cons (.var 0) (.cons (.var 1) (.nil))))) (.nop))
def N_is_table : List Str := [("earth" : Str), ("plan" : Str), ("value" : Str)]
abbrev i_is_table : Nat := 21
def s_is_table : S := .sq (.ex (.call 10 (.cons (.var 0) (.cons (.var 1) (.nil))))) (.sq (.ret (.call 15 (.cons (.var 0) (.cons (.var 1) (.cons (.var 2) (.nil)))))) (.nop))
def N_table_cost : List Str := [("earth" : Str), ("plan" : Str), ("value" : Str), ("one" : Str), ("other" : Str), ("amount" : Str)]
abbrev i_table_cost : Nat := 22
def s_table_cost : S := .sq (.ex (.call 10 (.cons (.var 0) (.cons (.var 1) (.nil))))) (.sq (.ite (.not (.call 15 (.cons (.var 0) (.cons (.var 1) (.cons (.var 2) (.nil)))))) (.sq (.ret (.con .none)) (.nop)) (.nop)) (.sq (.ret (.bi .sum (.cons (.lc (.bin .mul (.call 16 (.cons (.var 0) (.cons (.var 3) (.cons (.var 4) (.nil))))) (.var 5)) (.tp (.cons (.nm 3) (.cons (.nm 4) (.cons (.nm 5) (.nil))))) .seq (.var 2) (.con (.bool true)) [("one", 3), ("other", 4), ("amount", 5)]) (.nil)))) (.nop)))
def N_line : List Str := [("earth" : Str)]
abbrev i_line : Nat := 23
def s_line : S := .sq (.ex (.call 9 (.cons (.var 0) (.nil)))) (.sq (.ret (.call 17 (.cons (.var 0) (.nil)))) (.nop))
def N_balance : List Str := [("earth" : Str), ("some" : Str), ("one" : Str)]
abbrev i_balance : Nat := 24
def s_balance : S := .sq (.ex (.call 9 (.cons (.var 0) (.nil)))) (.sq (.set (.nm 1) (.bi .sorted (.cons (.lc (.tup (.cons (.call 18 (.cons (.var 0) (.cons (.bin .sub (.con (.int 0)) (.var 2)) (.nil)))) (.cons (.bin .sub (.con (.int 0)) (.var 2)) (.nil)))) (.nm 2) .seq (.call 17 (.cons (.var 0) (.nil))) (.con (.bool true)) [("one", 2)]) (.nil)))) (.sq (.ret (.ife (.cmp .ne (.var 1) (.lst (.nil))) (.idx (.idx (.var 1) (.con (.int 0))) (.con (.int 1))) (.con (.int 0)))) (.nop)))
def N__law_pot : List Str := [("script" : Str), ("k" : Str), ("cell" : Str)]
abbrev i__law_pot : Nat := 25
def s__law_pot : S := .sq (.set (.nm 2) (.ife (.cmp .lt (.var 1) (.bi .len (.cons (.var 0) (.nil)))) (.bi .abs (.cons (.idx (.var 0) (.var 1)) (.nil))) (.bin .add (.bin .add (.bin .mul (.con (.int 2383)) (.var 1)) (.con (.int 1667))) (.bin .mod (.bi .abs (.cons (.bi .sum (.cons (.slc (.var 0) (.nil) (.con (.int 1))) (.nil))) (.nil))) (.con (.int 1000003)))))) (.sq (.ret (.lst (.cons (.bi .max2 (.cons (.con (.int 0)) (.cons (.bin .sub (.var 2) (.bin .pow (.con (.int 10)) (.con (.int 18)))) (.nil)))) (.cons (.bin .add (.bin .mod (.bi .int (.cons (.bin .add (.bin .add (.bin .mul (.bin .mod (.bi .int (.cons (.var 2) (.nil))) (.con (.int 2147483549))) (.con (.int 40014))) (.bin .mul (.con (.int 7723)) (.var 1))) (.con (.int 1667))) (.nil))) (.con (.int 2147483563))) (.con (.int 1))) (.nil))))) (.nop))
def N__law_draw : List Str := [("pot" : Str), ("many" : Str), ("digit" : Str)]
abbrev i__law_draw : Nat := 26
def s__law_draw : S := .sq (.ite (.cmp .gt (.idx (.var 0) (.con (.int 0))) (.con (.int 0))) (.sq (.set (.tp (.cons (.sb (.var 0) (.con (.int 0))) (.cons (.nm 2) (.nil)))) (.bi .divmod (.cons (.idx (.var 0) (.con (.int 0))) (.cons (.var 1) (.nil))))) (.sq (.ret (.var 2)) (.nop))) (.nop)) (.sq (.set (.sb (.var 0) (.con (.int 1))) (.bin .mod (.bi .int (.cons (.bin .add (.bin .mul (.idx (.var 0) (.con (.int 1))) (.con (.int 39373))) (.con (.int 1667))) (.nil))) (.con (.int 2147483587)))) (.sq (.ret (.bin .mod (.bi .int (.cons (.bin .fdiv (.bin .mod (.bi .int (.cons (.bin .mul (.idx (.var 0) (.con (.int 1))) (.idx (.var 0) (.con (.int 1)))) (.nil))) (.con (.int 2147483563))) (.con (.int 19))) (.nil))) (.var 1))) (.nop)))
def N__law_pick : List Str := [("pot" : Str), ("some" : Str)]
abbrev i__law_pick : Nat := 27
def s__law_pick : S := .sq (.ret (.idx (.var 1) (.call 26 (.cons (.ino 0) (.cons (.bi .len (.cons (.var 1) (.nil))) (.nil)))))) (.nop)
def N__law_earth : List Str := [("pot" : Str), ("most" : Str), ("many" : Str), ("amounts" : Str), ("ways" : Str), ("place" : Str), ("tips" : Str), ("buys" : Str), ("drops" : Str), ("buy" : Str), ("drop" : Str), ("gap" : Str)]
abbrev i__law_earth : Nat := 28
def s__law_earth : S := .sq (.set (.nm 2) (.bin .add (.con (.int 1)) (.call 26 (.cons (.ino 0) (.cons (.var 1) (.nil)))))) (.sq (.set (.nm 3) (.lc (.bin .sub (.call 26 (.cons (.ino 0) (.cons (.con (.int 7)) (.nil)))) (.con (.int 3))) (.nm 5) .rng (.cons (.var 2) (.nil)) (.con (.bool true)) [("place", 5)])) (.sq (.set (.nm 4) (.bi .tuple (.cons (.lc (.tup (.cons (.call 26 (.cons (.ino 0) (.cons (.con (.int 5)) (.nil)))) (.cons (.call 26 (.cons (.ino 0) (.cons (.con (.int 5)) (.nil)))) (.nil)))) (.nm 11) .rng (.cons (.bin .sub (.var 2) (.con (.int 1))) (.nil)) (.con (.bool true)) [("gap", 11)]) (.nil)))) (.sq (.set (.tp (.cons (.nm 6) (.cons (.nm 7) (.cons (.nm 8) (.nil))))) (.tup (.cons (.lst (.nil)) (.cons (.con (.int 0)) (.cons (.con (.int 0)) (.nil)))))) (.sq (.for_ (.nm 5) .rng (.cons (.var 2) (.nil)) (.sq (.set (.nm 9) (.ife (.and (.cmp .lt (.var 7) (.con (.int 2))) (.cmp .eq (.call 26 (.cons (.ino 0) (.cons (.con (.int 3)) (.nil)))) (.con (.int 0)))) (.call 26 (.cons (.ino 0) (.cons (.con (.int 9)) (.nil)))) (.con .none))) (.sq (.set (.nm 10) (.ife (.and (.cmp .lt (.var 8) (.con (.int 2))) (.cmp .eq (.call 26 (.cons (.ino 0) (.cons (.con (.int 3)) (.nil)))) (.con (.int 0)))) (.call 26 (.cons (.ino 0) (.cons (.con (.int 9)) (.nil)))) (.con .none))) (.sq (.set (.tp (.cons (.nm 7) (.cons (.nm 8) (.nil)))) (.tup (.cons (.bin .add (.var 7) (.bi .int (.cons (.cmp .isnt (.var 9) (.con .none)) (.nil)))) (.cons (.bin .add (.var 8) (.bi .int (.cons (.cmp .isnt (.var 10) (.con .none)) (.nil)))) (.nil))))) (.sq (.ex (.app (.var 6) (.tup (.cons (.var 9) (.cons (.var 10) (.nil)))))) (.nop)))))) (.sq (.ite (.cmp .eq (.call 26 (.cons (.ino 0) (.cons (.con (.int 2)) (.nil)))) (.con (.int 0))) (.sq (.set (.sb (.var 3) (.neg (.con (.int 1)))) (.bi .max2 (.cons (.neg (.con (.int 9))) (.cons (.bi .min2 (.cons (.con (.int 9)) (.cons (.bin .sub (.con (.int 0)) (.bi .sum (.cons (.slc (.var 3) (.nil) (.neg (.con (.int 1)))) (.nil)))) (.nil)))) (.nil))))) (.nop)) (.nop)) (.sq (.ret (.tup (.cons (.con (.str "earth")) (.cons (.bi .tuple (.cons (.var 3) (.nil))) (.cons (.var 4) (.cons (.bi .tuple (.cons (.var 6) (.nil))) (.nil))))))) (.nop)))))))
def N__law_hauled : List Str := [("way" : Str), ("much" : Str)]
abbrev i__law_hauled : Nat := 29
def s__law_hauled : S := .sq (.ret (.ife (.cmp .gt (.var 1) (.con (.int 0))) (.bin .mul (.var 1) (.idx (.var 0) (.con (.int 0)))) (.bin .sub (.con (.int 0)) (.bin .mul (.var 1) (.idx (.var 0) (.con (.int 1))))))) (.nop)
def N__law_hauls : List Str := [("earth" : Str), ("bought" : Str), ("dropped" : Str), ("found" : Str), ("here" : Str), ("amount" : Str), ("more" : Str), ("less" : Str)]
abbrev i__law_hauls : Nat := 30
def s__law_hauls : S := .sq (.set (.tp (.cons (.nm 3) (.cons (.nm 4) (.nil)))) (.tup (.cons (.lst (.nil)) (.cons (.con (.int 0)) (.nil))))) (.sq (.for_ (.tp (.cons (.nm 5) (.cons (.nm 6) (.cons (.nm 7) (.nil))))) .zip (.cons (.idx (.var 0) (.con (.int 1))) (.cons (.var 1) (.cons (.var 2) (.nil)))) (.sq (.set (.nm 4) (.bin .sub (.bin .add (.bin .add (.var 4) (.var 5)) (.var 6)) (.var 7))) (.sq (.ex (.app (.var 3) (.var 4))) (.nop)))) (.sq (.ret (.tup (.cons (.bi .tuple (.cons (.slc (.var 3) (.nil) (.neg (.con (.int 1)))) (.nil))) (.cons (.idx (.var 3) (.neg (.con (.int 1)))) (.nil))))) (.nop)))
def N__law_plan : List Str := [("pot" : Str), ("earth" : Str), ("bought" : Str), ("dropped" : Str), ("rest" : Str), ("at" : Str), ("tip" : Str), ("buy" : Str), ("drop" : Str)]
abbrev i__law_plan : Nat := 31
def s__law_plan : S := .sq (.set (.nm 2) (.lc (.ife (.cmp .is_ (.idx (.var 6) (.con (.int 0))) (.con .none)) (.con (.int 0)) (.call 26 (.cons (.ino 0) (.cons (.con (.int 3)) (.nil))))) (.nm 6) .seq (.idx (.var 1) (.con (.int 3))) (.con (.bool true)) [("tip", 6)])) (.sq (.set (.nm 3) (.lc (.ife (.cmp .is_ (.idx (.var 6) (.con (.int 1))) (.con .none)) (.con (.int 0)) (.call 26 (.cons (.ino 0) (.cons (.con (.int 3)) (.nil))))) (.nm 6) .seq (.idx (.var 1) (.con (.int 3))) (.con (.bool true)) [("tip", 6)])) (.sq (.set (.nm 4) (.bin .sub (.bin .add (.bi .sum (.cons (.idx (.var 1) (.con (.int 1))) (.nil))) (.bi .sum (.cons (.var 2) (.nil)))) (.bi .sum (.cons (.var 3) (.nil))))) (.sq (.for_ (.tp (.cons (.nm 5) (.cons (.tp (.cons (.nm 7) (.cons (.nm 8) (.nil)))) (.nil)))) .enm (.idx (.var 1) (.con (.int 3))) (.sq (.ite (.and (.cmp .gt (.var 4) (.con (.int 0))) (.cmp .isnt (.var 8) (.con .none))) (.sq (.set (.tp (.cons (.sb (.var 3) (.var 5)) (.cons (.nm 4) (.nil)))) (.tup (.cons (.bin .add (.idx (.var 3) (.var 5)) (.var 4)) (.cons (.con (.int 0)) (.nil))))) (.nop)) (.nop)) (.sq (.ite (.and (.cmp .lt (.var 4) (.con (.int 0))) (.cmp .isnt (.var 7) (.con .none))) (.sq (.set (.tp (.cons (.sb (.var 2) (.var 5)) (.cons (.nm 4) (.nil)))) (.tup (.cons (.bin .sub (.idx (.var 2) (.var 5)) (.var 4)) (.cons (.con (.int 0)) (.nil))))) (.nop)) (.nop)) (.nop)))) (.sq (.ret (.ife (.cmp .eq (.var 4) (.con (.int 0))) (.tup (.cons (.idx (.call 30 (.cons (.var 1) (.cons (.var 2) (.cons (.var 3) (.nil))))) (.con (.int 0))) (.cons (.bi .tuple (.cons (.var 2) (.nil))) (.cons (.bi .tuple (.cons (.var 3) (.nil))) (.nil))))) (.con .none))) (.nop)))))
def N__law_ends : List Str := [("earth" : Str), ("plan" : Str), ("away" : Str), ("amount" : Str), ("more" : Str), ("less" : Str)]
abbrev i__law_ends : Nat := 32
def s__law_ends : S := .sq (.set (.nm 2) (.lc (.bin .add (.bi .max2 (.cons (.con (.int 0)) (.cons (.var 3) (.nil)))) (.var 4)) (.tp (.cons (.nm 3) (.cons (.nm 4) (.nil)))) .zip (.cons (.idx (.var 0) (.con (.int 1))) (.cons (.idx (.var 1) (.con (.int 1))) (.nil))) (.con (.bool true)) [("amount", 3), ("more", 4)])) (.sq (.ret (.tup (.cons (.var 2) (.cons (.lc (.bin .add (.bi .max2 (.cons (.con (.int 0)) (.cons (.bin .sub (.con (.int 0)) (.var 3)) (.nil)))) (.var 5)) (.tp (.cons (.nm 3) (.cons (.nm 5) (.nil)))) .zip (.cons (.idx (.var 0) (.con (.int 1))) (.cons (.idx (.var 1) (.con (.int 2))) (.nil))) (.con (.bool true)) [("amount", 3), ("less", 5)]) (.nil))))) (.nop))
def N__law_table : List Str := [("earth" : Str), ("plan" : Str), ("at" : Str), ("places" : Str), ("found" : Str), ("one" : Str), ("away" : Str), ("come" : Str), ("other" : Str), ("much" : Str)]
abbrev i__law_table : Nat := 33
def s__law_table : S := .sq (.set (.tp (.cons (.nm 6) (.cons (.nm 7) (.nil)))) (.call 32 (.cons (.var 0) (.cons (.var 1) (.nil))))) (.sq (.set (.nm 3) (.lrg (.bi .len (.cons (.var 6) (.nil))))) (.sq (.set (.nm 4) (.lst (.nil))) (.sq (.for_ (.nm 5) .seq (.var 3) (.sq (.for_ (.nm 8) .seq (.ife (.cmp .eq (.var 2) (.con (.int 0))) (.var 3) (.rev (.var 3))) (.sq (.set (.nm 9) (.bi .min2 (.cons (.idx (.var 6) (.var 5)) (.cons (.idx (.var 7) (.var 8)) (.nil))))) (.sq (.ite (.cmp .gt (.var 9) (.con (.int 0))) (.sq (.ex (.app (.var 4) (.tup (.cons (.var 5) (.cons (.var 8) (.cons (.var 9) (.nil))))))) (.sq (.set (.tp (.cons (.sb (.var 6) (.var 5)) (.cons (.sb (.var 7) (.var 8)) (.nil)))) (.tup (.cons (.bin .sub (.idx (.var 6) (.var 5)) (.var 9)) (.cons (.bin .sub (.idx (.var 7) (.var 8)) (.var 9)) (.nil))))) (.nop))) (.nop)) (.nop)))) (.nop))) (.sq (.ret (.bi .sorted (.cons (.var 4) (.nil)))) (.nop)))))
def N__law_is_int : List Str := [("value" : Str)]
abbrev i__law_is_int : Nat := 34
def s__law_is_int : S := .sq (.ret (.and (.isi (.var 0) ["int"]) (.not (.isi (.var 0) ["bool"])))) (.nop)
def N__law_is_table : List Str := [("earth" : Str), ("plan" : Str), ("value" : Str), ("many" : Str), ("one" : Str), ("at" : Str), ("away" : Str), ("come" : Str), ("other" : Str), ("part" : Str)]
abbrev i__law_is_table : Nat := 35
def s__law_is_table : S := .sq (.set (.nm 3) (.bi .len (.cons (.idx (.var 0) (.con (.int 1))) (.nil)))) (.sq (.ite (.not (.isi (.var 2) ["list", "tuple"])) (.sq (.ret (.con (.bool false))) (.nop)) (.nop)) (.sq (.for_ (.nm 4) .seq (.var 2) (.sq (.ite (.or (.not (.isi (.var 4) ["tuple"])) (.or (.cmp .ne (.bi .len (.cons (.var 4) (.nil))) (.con (.int 3))) (.cmp .ne (.lc (.var 9) (.nm 9) .seq (.var 4) (.not (.call 34 (.cons (.var 9) (.nil)))) [("part", 9)]) (.lst (.nil))))) (.sq (.ret (.con (.bool false))) (.nop)) (.nop)) (.sq (.ite (.or (.not (.cmp2 .le .lt (.con (.int 0)) (.idx (.var 4) (.con (.int 0))) (.var 3))) (.or (.not (.cmp2 .le .lt (.con (.int 0)) (.idx (.var 4) (.con (.int 1))) (.var 3))) (.cmp .le (.idx (.var 4) (.con (.int 2))) (.con (.int 0))))) (.sq (.ret (.con (.bool false))) (.nop)) (.nop)) (.nop)))) (.sq (.ite (.cmp .ne (.lc (.var 4) (.tp (.cons (.nm 4) (.cons (.nm 8) (.nil)))) .zip (.cons (.var 2) (.cons (.slc (.var 2) (.con (.int 1)) (.nil)) (.nil))) (.cmp .ge (.slc (.var 4) (.nil) (.con (.int 2))) (.slc (.var 8) (.nil) (.con (.int 2)))) [("one", 4), ("other", 8)]) (.lst (.nil))) (.sq (.ret (.con (.bool false))) (.nop)) (.nop)) (.sq (.set (.tp (.cons (.nm 6) (.cons (.nm 7) (.nil)))) (.call 32 (.cons (.var 0) (.cons (.var 1) (.nil))))) (.sq (.for_ (.nm 5) .rng (.cons (.var 3) (.nil)) (.sq (.ite (.or (.cmp .ne (.bi .sum (.cons (.lc (.idx (.var 4) (.con (.int 2))) (.nm 4) .seq (.var 2) (.cmp .eq (.idx (.var 4) (.con (.int 0))) (.var 5)) [("one", 4)]) (.nil))) (.idx (.var 6) (.var 5))) (.cmp .ne (.bi .sum (.cons (.lc (.idx (.var 4) (.con (.int 2))) (.nm 4) .seq (.var 2) (.cmp .eq (.idx (.var 4) (.con (.int 1))) (.var 5)) [("one", 4)]) (.nil))) (.idx (.var 7) (.var 5)))) (.sq (.ret (.con (.bool false))) (.nop)) (.nop)) (.nop))) (.sq (.ret (.con (.bool true))) (.nop)))))))
def N__law_table_cost : List Str := [("earth" : Str), ("value" : Str), ("found" : Str), ("one" : Str), ("other" : Str), ("much" : Str), ("gap" : Str)]
abbrev i__law_table_cost : Nat := 36
def s__law_table_cost : S := .sq (.set (.nm 2) (.con (.int 0))) (.sq (.for_ (.tp (.cons (.nm 3) (.cons (.nm 4) (.cons (.nm 5) (.nil))))) .seq (.var 1) (.sq (.for_ (.nm 6) .rng (.cons (.bi .min2 (.cons (.var 3) (.cons (.var 4) (.nil)))) (.cons (.bi .max2 (.cons (.var 3) (.cons (.var 4) (.nil)))) (.nil))) (.sq (.set (.nm 2) (.bin .add (.var 2) (.bin .mul (.var 5) (.ife (.cmp .lt (.var 3) (.var 4)) (.idx (.idx (.idx (.var 0) (.con (.int 2))) (.var 6)) (.con (.int 0))) (.idx (.idx (.idx (.var 0) (.con (.int 2))) (.var 6)) (.con (.int 1))))))) (.nop))) (.nop))) (.sq (.ret (.var 2)) (.nop)))
def N__law_tips_cost : List Str := [("earth" : Str), ("plan" : Str), ("found" : Str), ("more" : Str), ("less" : Str), ("buy" : Str), ("drop" : Str)]
abbrev i__law_tips_cost : Nat := 37
def s__law_tips_cost : S := .sq (.set (.nm 2) (.con (.int 0))) (.sq (.for_ (.tp (.cons (.tp (.cons (.nm 5) (.cons (.nm 6) (.nil)))) (.cons (.nm 3) (.cons (.nm 4) (.nil))))) .zip (.cons (.idx (.var 0) (.con (.int 3))) (.cons (.idx (.var 1) (.con (.int 1))) (.cons (.idx (.var 1) (.con (.int 2))) (.nil)))) (.sq (.set (.nm 2) (.bin .add (.bin .add (.var 2) (.ife (.cmp .gt (.var 3) (.con (.int 0))) (.bin .mul (.var 5) (.var 3)) (.con (.int 0)))) (.ife (.cmp .gt (.var 4) (.con (.int 0))) (.bin .mul (.var 6) (.var 4)) (.con (.int 0))))) (.nop))) (.sq (.ret (.var 2)) (.nop)))
def N__law_bent : List Str := [("pot" : Str), ("value" : Str), ("at" : Str), ("new" : Str), ("other" : Str)]
abbrev i__law_bent : Nat := 38
def s__law_bent : S := .sq (.ite (.not (.isi (.var 1) ["list", "tuple"])) (.sq (.ret (.call 27 (.cons (.ino 0) (.cons (.lst (.cons (.con .none) (.cons (.bin .add (.var 1) (.con (.int 1))) (.cons (.bin .sub (.var 1) (.con (.int 1))) (.cons (.con (.int 0)) (.cons (.con (.bool true)) (.cons (.bi .str (.cons (.var 1) (.nil))) (.nil)))))))) (.nil))))) (.nop)) (.nop)) (.sq (.ite (.or (.cmp .eq (.bi .len (.cons (.var 1) (.nil))) (.con (.int 0))) (.cmp .eq (.call 26 (.cons (.ino 0) (.cons (.con (.int 4)) (.nil)))) (.con (.int 0)))) (.sq (.set (.nm 4) (.ife (.isi (.var 1) ["tuple"]) (.bi .list (.cons (.var 1) (.nil))) (.bi .tuple (.cons (.var 1) (.nil))))) (.sq (.ret (.call 27 (.cons (.ino 0) (.cons (.lst (.cons (.slc (.var 1) (.nil) (.neg (.con (.int 1)))) (.cons (.bin .add (.var 1) (.slc (.var 1) (.neg (.con (.int 1))) (.nil))) (.cons (.var 4) (.cons (.con .none) (.cons (.rev (.var 1)) (.nil))))))) (.nil))))) (.nop))) (.nop)) (.sq (.set (.nm 2) (.call 26 (.cons (.ino 0) (.cons (.bi .len (.cons (.var 1) (.nil))) (.nil))))) (.sq (.set (.nm 3) (.call 38 (.cons (.ino 0) (.cons (.idx (.var 1) (.var 2)) (.nil))))) (.sq (.ret (.bin .add (.bin .add (.slc (.var 1) (.nil) (.var 2)) (.ife (.isi (.var 1) ["tuple"]) (.tup (.cons (.var 3) (.nil))) (.lst (.cons (.var 3) (.nil))))) (.slc (.var 1) (.bin .add (.var 2) (.con (.int 1))) (.nil)))) (.nop)))))
def N__law_lines_right : List Str := [("earth" : Str), ("due" : Str), ("told" : Str), ("some" : Str), ("one" : Str), ("own" : Str), ("gap" : Str), ("way" : Str), ("much" : Str)]
abbrev i__law_lines_right : Nat := 39
def s__law_lines_right : S := .sq (.set (.nm 1) (.lc (.bi .sum (.cons (.slc (.idx (.var 0) (.con (.int 1))) (.nil) (.bin .add (.var 6) (.con (.int 1)))) (.nil))) (.nm 6) .rng (.cons (.bi .len (.cons (.idx (.var 0) (.con (.int 2))) (.nil))) (.nil)) (.con (.bool true)) [("gap", 6)])) (.sq (.set (.nm 2) (.call 23 (.cons (.var 0) (.nil)))) (.sq (.ite (.cmp .ne (.bi .repr (.cons (.var 2) (.nil))) (.bi .repr (.cons (.var 1) (.nil)))) (.sq (.ret (.con (.bool false))) (.nop)) (.nop)) (.sq (.ex (.app (.var 2) (.con .none))) (.sq (.set (.nm 3) (.lst (.nil))) (.sq (.for_ (.nm 4) .seq (.var 1) (.sq (.ex (.app (.var 3) (.tup (.cons (.bi .sum (.cons (.lc (.call 29 (.cons (.var 7) (.cons (.bin .sub (.var 8) (.var 4)) (.nil)))) (.tp (.cons (.nm 7) (.cons (.nm 8) (.nil)))) .zip (.cons (.idx (.var 0) (.con (.int 2))) (.cons (.var 1) (.nil))) (.con (.bool true)) [("way", 7), ("much", 8)]) (.nil))) (.cons (.bin .sub (.con (.int 0)) (.var 4)) (.nil)))))) (.nop))) (.sq (.set (.nm 5) (.ife (.cmp .ne (.var 3) (.lst (.nil))) (.idx (.bi .min1 (.cons (.var 3) (.nil))) (.con (.int 1))) (.con (.int 0)))) (.sq (.ret (.cmp .eq (.bi .repr (.cons (.lst (.cons (.callk 23 (.nil) (.cons (.var 0) (.nil)) ["earth"] [0]) (.cons (.call 24 (.cons (.var 0) (.nil))) (.cons (.callk 24 (.nil) (.cons (.var 0) (.nil)) ["earth"] [0]) (.nil))))) (.nil))) (.bi .repr (.cons (.lst (.cons (.var 1) (.cons (.var 5) (.cons (.var 5) (.nil))))) (.nil))))) (.nop))))))))
def N__law_right : List Str := [("pot" : Str), ("earth" : Str), ("due" : Str), ("hauls" : Str), ("told" : Str), ("far" : Str), ("value" : Str), ("shown" : Str), ("plan" : Str), ("much" : Str), ("flag" : Str), ("before" : Str), ("turn" : Str)]
abbrev i__law_right : Nat := 40
def s__law_right : S := .sq (.set (.tp (.cons (.nm 7) (.cons (.nm 8) (.nil)))) (.tup (.cons (.bi .repr (.cons (.var 1) (.nil))) (.cons (.call 31 (.cons (.ino 0) (.cons (.var 1) (.nil)))) (.nil))))) (.sq (.ite (.not (.call 39 (.cons (.var 1) (.nil)))) (.sq (.ret (.con (.bool false))) (.nop)) (.nop)) (.sq (.ite (.cmp .is_ (.var 8) (.con .none)) (.sq (.ret (.cmp .eq (.bi .repr (.cons (.var 1) (.nil))) (.var 7))) (.nop)) (.nop)) (.sq (.set (.nm 2) (.call 33 (.cons (.var 1) (.cons (.var 8) (.cons (.con (.int 0)) (.nil)))))) (.sq (.set (.nm 3) (.bin .sub (.call 19 (.cons (.var 1) (.cons (.var 8) (.nil)))) (.call 37 (.cons (.var 1) (.cons (.var 8) (.nil)))))) (.sq (.set (.nm 4) (.call 20 (.cons (.var 1) (.cons (.var 8) (.nil))))) (.sq (.ite (.or (.cmp .ne (.bi .repr (.cons (.var 4) (.nil))) (.bi .repr (.cons (.var 2) (.nil)))) (.cmp .ne (.call 36 (.cons (.var 1) (.cons (.var 2) (.nil)))) (.var 3))) (.sq (.ret (.con (.bool false))) (.nop)) (.nop)) (.sq (.ex (.app (.var 4) (.con .none))) (.sq (.ite (.cmp .ne (.bi .repr (.cons (.callk 20 (.nil) (.cons (.var 8) (.cons (.var 1) (.nil))) ["plan", "earth"] [1, 0]) (.nil))) (.bi .repr (.cons (.var 2) (.nil)))) (.sq (.ret (.con (.bool false))) (.nop)) (.nop)) (.sq (.set (.nm 5) (.call 33 (.cons (.var 1) (.cons (.var 8) (.cons (.con (.int 1)) (.nil)))))) (.sq (.for_ (.nm 6) .seq (.bin .add (.lst (.cons (.var 2) (.cons (.var 5) (.cons (.bi .tuple (.cons (.var 2) (.nil))) (.cons (.rev (.var 2)) (.cons (.con .none) (.cons (.con (.int 0)) (.cons (.lst (.nil)) (.cons (.lst (.cons (.tup (.cons (.con (.int 0)) (.cons (.con (.int 0)) (.cons (.con (.int 0)) (.nil))))) (.nil))) (.nil)))))))))) (.lc (.call 38 (.cons (.ino 0) (.cons (.var 2) (.nil)))) (.nm 12) .rng (.cons (.con (.int 6)) (.nil)) (.con (.bool true)) [("turn", 12)])) (.sq (.set (.tp (.cons (.nm 10) (.cons (.nm 11) (.nil)))) (.tup (.cons (.call 35 (.cons (.var 1) (.cons (.var 8) (.cons (.var 6) (.nil))))) (.cons (.bi .repr (.cons (.var 6) (.nil))) (.nil))))) (.sq (.set (.nm 9) (.ife (.var 10) (.call 36 (.cons (.var 1) (.cons (.var 6) (.nil)))) (.con .none))) (.sq (.ite (.and (.cmp .isnt (.var 9) (.con .none)) (.cmp .lt (.var 9) (.var 3))) (.sq (.ret (.con (.bool false))) (.nop)) (.nop)) (.sq (.ite (.cmp .ne (.bi .repr (.cons (.lst (.cons (.call 21 (.cons (.var 1) (.cons (.var 8) (.cons (.var 6) (.nil))))) (.cons (.call 22 (.cons (.var 1) (.cons (.var 8) (.cons (.var 6) (.nil))))) (.nil)))) (.nil))) (.bi .repr (.cons (.lst (.cons (.var 10) (.cons (.var 9) (.nil)))) (.nil)))) (.sq (.ret (.con (.bool false))) (.nop)) (.nop)) (.sq (.ite (.or (.cmp .ne (.bi .repr (.cons (.lst (.cons (.callk 21 (.nil) (.cons (.var 6) (.cons (.var 8) (.cons (.var 1) (.nil)))) ["value", "plan", "earth"] [2, 1, 0]) (.cons (.callk 22 (.nil) (.cons (.var 6) (.cons (.var 8) (.cons (.var 1) (.nil)))) ["value", "plan", "earth"] [2, 1, 0]) (.nil)))) (.nil))) (.bi .repr (.cons (.lst (.cons (.var 10) (.cons (.var 9) (.nil)))) (.nil)))) (.cmp .ne (.bi .repr (.cons (.var 6) (.nil))) (.var 11))) (.sq (.ret (.con (.bool false))) (.nop)) (.nop)) (.nop))))))) (.sq (.ret (.cmp .eq (.bi .repr (.cons (.var 1) (.nil))) (.var 7))) (.nop))))))))))))
def N__law_great : List Str := [("pot" : Str), ("ways" : Str), ("tips" : Str), ("gap" : Str), ("place" : Str)]
abbrev i__law_great : Nat := 41
def s__law_great : S := .sq (.set (.nm 1) (.bi .tuple (.cons (.lc (.tup (.cons (.call 26 (.cons (.ino 0) (.cons (.con (.int 100)) (.nil)))) (.cons (.call 26 (.cons (.ino 0) (.cons (.con (.int 100)) (.nil)))) (.nil)))) (.nm 3) .rng (.cons (.con (.int 9)) (.nil)) (.con (.bool true)) [("gap", 3)]) (.nil)))) (.sq (.set (.nm 2) (.bi .tuple (.cons (.lc (.call 27 (.cons (.ino 0) (.cons (.lst (.cons (.tup (.cons (.con .none) (.cons (.con .none) (.nil)))) (.cons (.tup (.cons (.call 26 (.cons (.ino 0) (.cons (.con (.int 1000)) (.nil)))) (.cons (.con .none) (.nil)))) (.cons (.tup (.cons (.con .none) (.cons (.call 26 (.cons (.ino 0) (.cons (.con (.int 1000)) (.nil)))) (.nil)))) (.cons (.tup (.cons (.con (.int 999)) (.cons (.con (.int 999)) (.nil)))) (.nil)))))) (.nil)))) (.nm 4) .rng (.cons (.con (.int 10)) (.nil)) (.con (.bool true)) [("place", 4)]) (.nil)))) (.sq (.ret (.tup (.cons (.con (.str "earth")) (.cons (.bi .tuple (.cons (.lc (.bin .sub (.call 26 (.cons (.ino 0) (.cons (.con (.int 199)) (.nil)))) (.con (.int 99))) (.nm 4) .rng (.cons (.con (.int 10)) (.nil)) (.con (.bool true)) [("place", 4)]) (.nil))) (.cons (.var 1) (.cons (.var 2) (.nil))))))) (.nop)))
def N_law : List Str := [("script" : Str), ("k" : Str), ("pot" : Str)]
abbrev i_law : Nat := 42
def s_law : S := .sq (.for_ (.nm 1) .rng (.cons (.bi .max2 (.cons (.con (.int 1)) (.cons (.bi .min2 (.cons (.con (.int 3)) (.cons (.bi .len (.cons (.var 0) (.nil))) (.nil)))) (.nil)))) (.nil)) (.sq (.set (.nm 2) (.call 25 (.cons (.var 0) (.cons (.var 1) (.nil))))) (.sq (.ite (.or (.not (.call 40 (.cons (.ino 2) (.cons (.call 28 (.cons (.ino 2) (.cons (.con (.int 5)) (.nil)))) (.nil))))) (.not (.call 40 (.cons (.ino 2) (.cons (.call 41 (.cons (.ino 2) (.nil))) (.nil)))))) (.sq (.ret (.con (.bool false))) (.nop)) (.nop)) (.nop)))) (.sq (.ret (.con (.bool true))) (.nop))
def Ns : List (List Str) := [N_is_list, N_is_integer, N_is_count, N_is_position, N_pair_is_right, N_earth_is_right, N_is_row, N_tips_are_kept, N_plan_is_right, N_check_earth, N_check_plan, N_cost_of, N_gives_and_takes, N_table_of, N_entry_is_right, N_table_is_right, N_way_of, N_line_of, N_shifted_cost, N_cost, N_table, N_is_table, N_table_cost, N_line, N_balance, N__law_pot, N__law_draw, N__law_pick, N__law_earth, N__law_hauled, N__law_hauls, N__law_plan, N__law_ends, N__law_table, N__law_is_int, N__law_is_table, N__law_table_cost, N__law_tips_cost, N__law_bent, N__law_lines_right, N__law_right, N__law_great, N_law]
def Ps : List Df := [⟨1, 0, [false], s_is_list⟩, ⟨1, 0, [false], s_is_integer⟩, ⟨1, 0, [false], s_is_count⟩, ⟨2, 0, [false, false], s_is_position⟩, ⟨3, 1, [false, false, false], s_pair_is_right⟩, ⟨1, 6, [false], s_earth_is_right⟩, ⟨2, 1, [false, false], s_is_row⟩, ⟨3, 2, [false, false, false], s_tips_are_kept⟩, ⟨2, 7, [false, false], s_plan_is_right⟩, ⟨1, 0, [false], s_check_earth⟩, ⟨2, 0, [false, false], s_check_plan⟩, ⟨2, 7, [false, false], s_cost_of⟩, ⟨2, 5, [false, false], s_gives_and_takes⟩, ⟨2, 6, [false, false], s_table_of⟩, ⟨2, 0, [false, false], s_entry_is_right⟩, ⟨3, 6, [false, false, false], s_table_is_right⟩, ⟨3, 2, [false, false, false], s_way_of⟩, ⟨1, 1, [false], s_line_of⟩, ⟨2, 4, [false, false], s_shifted_cost⟩, ⟨2, 0, [false, false], s_cost⟩, ⟨2, 0, [false, false], s_table⟩, ⟨3, 0, [false, false, false], s_is_table⟩, ⟨3, 3, [false, false, false], s_table_cost⟩, ⟨1, 0, [false], s_line⟩, ⟨1, 2, [false], s_balance⟩, ⟨2, 1, [false, false], s__law_pot⟩, ⟨2, 1, [true, false], s__law_draw⟩, ⟨2, 0, [true, false], s__law_pick⟩, ⟨2, 10, [true, false], s__law_earth⟩, ⟨2, 0, [false, false], s__law_hauled⟩, ⟨3, 5, [false, false, false], s__law_hauls⟩, ⟨2, 7, [true, false], s__law_plan⟩, ⟨2, 4, [false, false], s__law_ends⟩, ⟨3, 7, [false, false, false], s__law_table⟩, ⟨1, 0, [false], s__law_is_int⟩, ⟨3, 7, [false, false, false], s__law_is_table⟩, ⟨2, 5, [false, false], s__law_table_cost⟩, ⟨2, 5, [false, false], s__law_tips_cost⟩, ⟨2, 3, [true, false], s__law_bent⟩, ⟨1, 8, [false], s__law_lines_right⟩, ⟨2, 11, [true, false], s__law_right⟩, ⟨1, 4, [true], s__law_great⟩, ⟨1, 2, [false], s_law⟩]
theorem r_is_list (n : Nat) (x0 : O) : cl gl Ps (n + 1) i_is_list [x0] = Pl.endK [false] (ex gl (cl gl Ps n) s_is_list [some (fz x0)]) := Pl.cl_end (d := ⟨1, 0, [false], s_is_list⟩) rfl ⟨rfl, rfl, by decide +kernel⟩
theorem r_is_integer (n : Nat) (x0 : O) : cl gl Ps (n + 1) i_is_integer [x0] = Pl.endK [false] (ex gl (cl gl Ps n) s_is_integer [some (fz x0)]) := Pl.cl_end (d := ⟨1, 0, [false], s_is_integer⟩) rfl ⟨rfl, rfl, by decide +kernel⟩
theorem r_is_count (n : Nat) (x0 : O) : cl gl Ps (n + 1) i_is_count [x0] = Pl.endK [false] (ex gl (cl gl Ps n) s_is_count [some (fz x0)]) := Pl.cl_end (d := ⟨1, 0, [false], s_is_count⟩) rfl ⟨rfl, rfl, by decide +kernel⟩
theorem r_is_position (n : Nat) (x0 x1 : O) : cl gl Ps (n + 1) i_is_position [x0, x1] = Pl.endK [false, false] (ex gl (cl gl Ps n) s_is_position [some (fz x0), some (fz x1)]) := Pl.cl_end (d := ⟨2, 0, [false, false], s_is_position⟩) rfl ⟨rfl, rfl, by decide +kernel⟩
theorem r_pair_is_right (n : Nat) (x0 x1 x2 : O) : cl gl Ps (n + 1) i_pair_is_right [x0, x1, x2] = Pl.endK [false, false, false] (ex gl (cl gl Ps n) s_pair_is_right [some (fz x0), some (fz x1), some (fz x2), none]) := Pl.cl_end (d := ⟨3, 1, [false, false, false], s_pair_is_right⟩) rfl ⟨rfl, rfl, by decide +kernel⟩
theorem r_earth_is_right (n : Nat) (x0 : O) : cl gl Ps (n + 1) i_earth_is_right [x0] = Pl.endK [false] (ex gl (cl gl Ps n) s_earth_is_right [some (fz x0), none, none, none, none, none, none]) := Pl.cl_end (d := ⟨1, 6, [false], s_earth_is_right⟩) rfl ⟨rfl, rfl, by decide +kernel⟩
theorem r_is_row (n : Nat) (x0 x1 : O) : cl gl Ps (n + 1) i_is_row [x0, x1] = Pl.endK [false, false] (ex gl (cl gl Ps n) s_is_row [some (fz x0), some (fz x1), none]) := Pl.cl_end (d := ⟨2, 1, [false, false], s_is_row⟩) rfl ⟨rfl, rfl, by decide +kernel⟩
theorem r_tips_are_kept (n : Nat) (x0 x1 x2 : O) : cl gl Ps (n + 1) i_tips_are_kept [x0, x1, x2] = Pl.endK [false, false, false] (ex gl (cl gl Ps n) s_tips_are_kept [some (fz x0), some (fz x1), some (fz x2), none, none]) := Pl.cl_end (d := ⟨3, 2, [false, false, false], s_tips_are_kept⟩) rfl ⟨rfl, rfl, by decide +kernel⟩
theorem r_plan_is_right (n : Nat) (x0 x1 : O) : cl gl Ps (n + 1) i_plan_is_right [x0, x1] = Pl.endK [false, false] (ex gl (cl gl Ps n) s_plan_is_right [some (fz x0), some (fz x1), none, none, none, none, none, none, none]) := Pl.cl_end (d := ⟨2, 7, [false, false], s_plan_is_right⟩) rfl ⟨rfl, rfl, by decide +kernel⟩
theorem r_check_earth (n : Nat) (x0 : O) : cl gl Ps (n + 1) i_check_earth [x0] = Pl.endK [false] (ex gl (cl gl Ps n) s_check_earth [some (fz x0)]) := Pl.cl_end (d := ⟨1, 0, [false], s_check_earth⟩) rfl ⟨rfl, rfl, by decide +kernel⟩
theorem r_check_plan (n : Nat) (x0 x1 : O) : cl gl Ps (n + 1) i_check_plan [x0, x1] = Pl.endK [false, false] (ex gl (cl gl Ps n) s_check_plan [some (fz x0), some (fz x1)]) := Pl.cl_end (d := ⟨2, 0, [false, false], s_check_plan⟩) rfl ⟨rfl, rfl, by decide +kernel⟩
theorem r_cost_of (n : Nat) (x0 x1 : O) : cl gl Ps (n + 1) i_cost_of [x0, x1] = Pl.endK [false, false] (ex gl (cl gl Ps n) s_cost_of [some (fz x0), some (fz x1), none, none, none, none, none, none, none]) := Pl.cl_end (d := ⟨2, 7, [false, false], s_cost_of⟩) rfl ⟨rfl, rfl, by decide +kernel⟩
theorem r_gives_and_takes (n : Nat) (x0 x1 : O) : cl gl Ps (n + 1) i_gives_and_takes [x0, x1] = Pl.endK [false, false] (ex gl (cl gl Ps n) s_gives_and_takes [some (fz x0), some (fz x1), none, none, none, none, none]) := Pl.cl_end (d := ⟨2, 5, [false, false], s_gives_and_takes⟩) rfl ⟨rfl, rfl, by decide +kernel⟩
theorem r_table_of (n : Nat) (x0 x1 : O) : cl gl Ps (n + 1) i_table_of [x0, x1] = Pl.endK [false, false] (ex gl (cl gl Ps n) s_table_of [some (fz x0), some (fz x1), none, none, none, none, none, none]) := Pl.cl_end (d := ⟨2, 6, [false, false], s_table_of⟩) rfl ⟨rfl, rfl, by decide +kernel⟩
theorem r_entry_is_right (n : Nat) (x0 x1 : O) : cl gl Ps (n + 1) i_entry_is_right [x0, x1] = Pl.endK [false, false] (ex gl (cl gl Ps n) s_entry_is_right [some (fz x0), some (fz x1)]) := Pl.cl_end (d := ⟨2, 0, [false, false], s_entry_is_right⟩) rfl ⟨rfl, rfl, by decide +kernel⟩
theorem r_table_is_right (n : Nat) (x0 x1 x2 : O) : cl gl Ps (n + 1) i_table_is_right [x0, x1, x2] = Pl.endK [false, false, false] (ex gl (cl gl Ps n) s_table_is_right [some (fz x0), some (fz x1), some (fz x2), none, none, none, none, none, none]) := Pl.cl_end (d := ⟨3, 6, [false, false, false], s_table_is_right⟩) rfl ⟨rfl, rfl, by decide +kernel⟩
theorem r_way_of (n : Nat) (x0 x1 x2 : O) : cl gl Ps (n + 1) i_way_of [x0, x1, x2] = Pl.endK [false, false, false] (ex gl (cl gl Ps n) s_way_of [some (fz x0), some (fz x1), some (fz x2), none, none]) := Pl.cl_end (d := ⟨3, 2, [false, false, false], s_way_of⟩) rfl ⟨rfl, rfl, by decide +kernel⟩
theorem r_line_of (n : Nat) (x0 : O) : cl gl Ps (n + 1) i_line_of [x0] = Pl.endK [false] (ex gl (cl gl Ps n) s_line_of [some (fz x0), none]) := Pl.cl_end (d := ⟨1, 1, [false], s_line_of⟩) rfl ⟨rfl, rfl, by decide +kernel⟩
theorem r_shifted_cost (n : Nat) (x0 x1 : O) : cl gl Ps (n + 1) i_shifted_cost [x0, x1] = Pl.endK [false, false] (ex gl (cl gl Ps n) s_shifted_cost [some (fz x0), some (fz x1), none, none, none, none]) := Pl.cl_end (d := ⟨2, 4, [false, false], s_shifted_cost⟩) rfl ⟨rfl, rfl, by decide +kernel⟩
theorem r_cost (n : Nat) (x0 x1 : O) : cl gl Ps (n + 1) i_cost [x0, x1] = Pl.endK [false, false] (ex gl (cl gl Ps n) s_cost [some (fz x0), some (fz x1)]) := Pl.cl_end (d := ⟨2, 0, [false, false], s_cost⟩) rfl ⟨rfl, rfl, by decide +kernel⟩
theorem r_table (n : Nat) (x0 x1 : O) : cl gl Ps (n + 1) i_table [x0, x1] = Pl.endK [false, false] (ex gl (cl gl Ps n) s_table [some (fz x0), some (fz x1)]) := Pl.cl_end (d := ⟨2, 0, [false, false], s_table⟩) rfl ⟨rfl, rfl, by decide +kernel⟩
theorem r_is_table (n : Nat) (x0 x1 x2 : O) : cl gl Ps (n + 1) i_is_table [x0, x1, x2] = Pl.endK [false, false, false] (ex gl (cl gl Ps n) s_is_table [some (fz x0), some (fz x1), some (fz x2)]) := Pl.cl_end (d := ⟨3, 0, [false, false, false], s_is_table⟩) rfl ⟨rfl, rfl, by decide +kernel⟩
theorem r_table_cost (n : Nat) (x0 x1 x2 : O) : cl gl Ps (n + 1) i_table_cost [x0, x1, x2] = Pl.endK [false, false, false] (ex gl (cl gl Ps n) s_table_cost [some (fz x0), some (fz x1), some (fz x2), none, none, none]) := Pl.cl_end (d := ⟨3, 3, [false, false, false], s_table_cost⟩) rfl ⟨rfl, rfl, by decide +kernel⟩
theorem r_line (n : Nat) (x0 : O) : cl gl Ps (n + 1) i_line [x0] = Pl.endK [false] (ex gl (cl gl Ps n) s_line [some (fz x0)]) := Pl.cl_end (d := ⟨1, 0, [false], s_line⟩) rfl ⟨rfl, rfl, by decide +kernel⟩
theorem r_balance (n : Nat) (x0 : O) : cl gl Ps (n + 1) i_balance [x0] = Pl.endK [false] (ex gl (cl gl Ps n) s_balance [some (fz x0), none, none]) := Pl.cl_end (d := ⟨1, 2, [false], s_balance⟩) rfl ⟨rfl, rfl, by decide +kernel⟩
theorem r__law_pot (n : Nat) (x0 x1 : O) : cl gl Ps (n + 1) i__law_pot [x0, x1] = Pl.endK [false, false] (ex gl (cl gl Ps n) s__law_pot [some (fz x0), some (fz x1), none]) := Pl.cl_end (d := ⟨2, 1, [false, false], s__law_pot⟩) rfl ⟨rfl, rfl, by decide +kernel⟩
theorem r__law_draw (n : Nat) (x0 x1 : O) : cl gl Ps (n + 1) i__law_draw [x0, x1] = Pl.endK [true, false] (ex gl (cl gl Ps n) s__law_draw [some x0, some (fz x1), none]) := Pl.cl_end (d := ⟨2, 1, [true, false], s__law_draw⟩) rfl ⟨rfl, rfl, by decide +kernel⟩
theorem r__law_pick (n : Nat) (x0 x1 : O) : cl gl Ps (n + 1) i__law_pick [x0, x1] = Pl.endK [true, false] (ex gl (cl gl Ps n) s__law_pick [some x0, some (fz x1)]) := Pl.cl_end (d := ⟨2, 0, [true, false], s__law_pick⟩) rfl ⟨rfl, rfl, by decide +kernel⟩
theorem r__law_earth (n : Nat) (x0 x1 : O) : cl gl Ps (n + 1) i__law_earth [x0, x1] = Pl.endK [true, false] (ex gl (cl gl Ps n) s__law_earth [some x0, some (fz x1), none, none, none, none, none, none, none, none, none, none]) := Pl.cl_end (d := ⟨2, 10, [true, false], s__law_earth⟩) rfl ⟨rfl, rfl, by decide +kernel⟩
theorem r__law_hauled (n : Nat) (x0 x1 : O) : cl gl Ps (n + 1) i__law_hauled [x0, x1] = Pl.endK [false, false] (ex gl (cl gl Ps n) s__law_hauled [some (fz x0), some (fz x1)]) := Pl.cl_end (d := ⟨2, 0, [false, false], s__law_hauled⟩) rfl ⟨rfl, rfl, by decide +kernel⟩
theorem r__law_hauls (n : Nat) (x0 x1 x2 : O) : cl gl Ps (n + 1) i__law_hauls [x0, x1, x2] = Pl.endK [false, false, false] (ex gl (cl gl Ps n) s__law_hauls [some (fz x0), some (fz x1), some (fz x2), none, none, none, none, none]) := Pl.cl_end (d := ⟨3, 5, [false, false, false], s__law_hauls⟩) rfl ⟨rfl, rfl, by decide +kernel⟩
theorem r__law_plan (n : Nat) (x0 x1 : O) : cl gl Ps (n + 1) i__law_plan [x0, x1] = Pl.endK [true, false] (ex gl (cl gl Ps n) s__law_plan [some x0, some (fz x1), none, none, none, none, none, none, none]) := Pl.cl_end (d := ⟨2, 7, [true, false], s__law_plan⟩) rfl ⟨rfl, rfl, by decide +kernel⟩
theorem r__law_ends (n : Nat) (x0 x1 : O) : cl gl Ps (n + 1) i__law_ends [x0, x1] = Pl.endK [false, false] (ex gl (cl gl Ps n) s__law_ends [some (fz x0), some (fz x1), none, none, none, none]) := Pl.cl_end (d := ⟨2, 4, [false, false], s__law_ends⟩) rfl ⟨rfl, rfl, by decide +kernel⟩
theorem r__law_table (n : Nat) (x0 x1 x2 : O) : cl gl Ps (n + 1) i__law_table [x0, x1, x2] = Pl.endK [false, false, false] (ex gl (cl gl Ps n) s__law_table [some (fz x0), some (fz x1), some (fz x2), none, none, none, none, none, none, none]) := Pl.cl_end (d := ⟨3, 7, [false, false, false], s__law_table⟩) rfl ⟨rfl, rfl, by decide +kernel⟩
theorem r__law_is_int (n : Nat) (x0 : O) : cl gl Ps (n + 1) i__law_is_int [x0] = Pl.endK [false] (ex gl (cl gl Ps n) s__law_is_int [some (fz x0)]) := Pl.cl_end (d := ⟨1, 0, [false], s__law_is_int⟩) rfl ⟨rfl, rfl, by decide +kernel⟩
theorem r__law_is_table (n : Nat) (x0 x1 x2 : O) : cl gl Ps (n + 1) i__law_is_table [x0, x1, x2] = Pl.endK [false, false, false] (ex gl (cl gl Ps n) s__law_is_table [some (fz x0), some (fz x1), some (fz x2), none, none, none, none, none, none, none]) := Pl.cl_end (d := ⟨3, 7, [false, false, false], s__law_is_table⟩) rfl ⟨rfl, rfl, by decide +kernel⟩
theorem r__law_table_cost (n : Nat) (x0 x1 : O) : cl gl Ps (n + 1) i__law_table_cost [x0, x1] = Pl.endK [false, false] (ex gl (cl gl Ps n) s__law_table_cost [some (fz x0), some (fz x1), none, none, none, none, none]) := Pl.cl_end (d := ⟨2, 5, [false, false], s__law_table_cost⟩) rfl ⟨rfl, rfl, by decide +kernel⟩
theorem r__law_tips_cost (n : Nat) (x0 x1 : O) : cl gl Ps (n + 1) i__law_tips_cost [x0, x1] = Pl.endK [false, false] (ex gl (cl gl Ps n) s__law_tips_cost [some (fz x0), some (fz x1), none, none, none, none, none]) := Pl.cl_end (d := ⟨2, 5, [false, false], s__law_tips_cost⟩) rfl ⟨rfl, rfl, by decide +kernel⟩
theorem r__law_bent (n : Nat) (x0 x1 : O) : cl gl Ps (n + 1) i__law_bent [x0, x1] = Pl.endK [true, false] (ex gl (cl gl Ps n) s__law_bent [some x0, some (fz x1), none, none, none]) := Pl.cl_end (d := ⟨2, 3, [true, false], s__law_bent⟩) rfl ⟨rfl, rfl, by decide +kernel⟩
theorem r__law_lines_right (n : Nat) (x0 : O) : cl gl Ps (n + 1) i__law_lines_right [x0] = Pl.endK [false] (ex gl (cl gl Ps n) s__law_lines_right [some (fz x0), none, none, none, none, none, none, none, none]) := Pl.cl_end (d := ⟨1, 8, [false], s__law_lines_right⟩) rfl ⟨rfl, rfl, by decide +kernel⟩
theorem r__law_right (n : Nat) (x0 x1 : O) : cl gl Ps (n + 1) i__law_right [x0, x1] = Pl.endK [true, false] (ex gl (cl gl Ps n) s__law_right [some x0, some (fz x1), none, none, none, none, none, none, none, none, none, none, none]) := Pl.cl_end (d := ⟨2, 11, [true, false], s__law_right⟩) rfl ⟨rfl, rfl, by decide +kernel⟩
theorem r__law_great (n : Nat) (x0 : O) : cl gl Ps (n + 1) i__law_great [x0] = Pl.endK [true] (ex gl (cl gl Ps n) s__law_great [some x0, none, none, none, none]) := Pl.cl_end (d := ⟨1, 4, [true], s__law_great⟩) rfl ⟨rfl, rfl, by decide +kernel⟩
theorem r_law (n : Nat) (x0 : O) : cl gl Ps (n + 1) i_law [x0] = Pl.endK [false] (ex gl (cl gl Ps n) s_law [some (fz x0), none, none]) := Pl.cl_end (d := ⟨1, 2, [false], s_law⟩) rfl ⟨rfl, rfl, by decide +kernel⟩
end K91

end
section
set_option maxHeartbeats 4000000
/-! K91A: the program's defs. -/
namespace K91
open PySem Mi Pl Er
@[simp] theorem c_is_integer (v : PyData) (n : Nat) (h : nd v = true) : cl gl Ps (n + 1) 1 [.val v] = some (.val (.bool (isI v)), [none]) := by
  rw [r_is_integer]
  cases v <;> simp_all [s_is_integer]
@[simp] theorem c_is_count (v : PyData) (n : Nat) (h : nd v = true) : cl gl Ps (n + 2) 2 [.val v] = some (.val (.bool (isC v)), [none]) := by
  rw [r_is_count]
  cases v <;> simp_all [s_is_count, isC]
theorem c_pair_is_right (a b : Option Int) (n : Nat) (most : Int) (wn : Bool) (ha : a = none → wn = true) (hb : b = none → wn = true) (h1 : ∀ i, a = some i → 0 ≤ i ∧ i ≤ most) (h2 : ∀ i, b = some i → 0 ≤ i ∧ i ≤ most) :
    cl gl Ps (n + 3) 4 [.val (.tuple [od a, od b]), .val (.int most), .val (.bool wn)] = some (.val (.bool true), [none, none, none]) := by
  have key : ∀ x : Option Int, (x = none → wn = true) → (∀ i, x = some i → 0 ≤ i ∧ i ≤ most) → lcF gl (cl gl Ps (n + 2)) (((T.cmp Cop.is_ (T.var 3) (T.con PyData.none)).and (T.var 2)).or ((T.call 2 ((T.var 3).cons T.nil)).and (T.cmp Cop.le (T.var 3) (T.var 1)))) (G.nm 3) (T.con (PyData.bool true)) [3] (od x) [some (.val (.tuple [od a, od b])), some (.val (.int most)), some (.val (.bool wn)), none] = some (some (.val (.bool true)), [some (.val (.tuple [od a, od b])), some (.val (.int most)), some (.val (.bool wn)), none]) := by
    intro x hx hi
    cases x with
    | none => simp [lcF, od, hx rfl]
    | some i => simp [lcF, od, isC, hi i rfl]
  rw [r_pair_is_right]
  simp [s_pair_is_right, tyn, isKind, plainAt, lcGo_cons, key a ha h1, key b hb h2]
  rfl

theorem c_earth_is_right (e : E) (he : ok e) (n : Nat) : cl gl Ps (n + 4) 5 [.val (eD e)] = some (.val (.bool true), [none]) := by
  have h1 := he.l1; have h2 := he.l2; have h3 := he.lw; have h4 := he.lt
  have k1 : ∀ x1 x2 x3 x4 x5, lcGo (lcF gl (cl gl Ps (n + 3)) ((T.call 1 ((T.var 5).cons T.nil)).and (T.cmp Cop.le (T.bi Bi.abs ((T.var 5).cons T.nil)) (T.glo 1))) (G.nm 5) (T.con (PyData.bool true)) [5]) (e.am.map PyData.int) [x1, x2, x3, x4, x5, none, none] = some (e.am.map (fun _ => O.val (.bool true)), [x1, x2, x3, x4, x5, none, none]) := by
    intro x1 x2 x3 x4 x5
    refine lcGo_enc (fun _ => O.val (.bool true)) fun a ha => ?_
    have := he.am a ha
    simp [lcF]
    split <;> omega
  have k2 : ∀ x1 x2 x3 x4 x5, lcGo (lcF gl (cl gl Ps (n + 3)) (T.call 4 ((T.var 6).cons ((T.glo 2).cons ((T.con (PyData.bool false)).cons T.nil)))) (G.nm 6) (T.con (PyData.bool true)) [6]) (e.wy.map wD) [x1, x2, x3, x4, x5, none, none] = some (e.wy.map (fun _ => O.val (.bool true)), [x1, x2, x3, x4, x5, none, none]) := by
    intro x1 x2 x3 x4 x5
    refine lcGo_enc (fun _ => O.val (.bool true)) fun w hw => ?_
    have := he.wy w hw
    have q := c_pair_is_right (some w.1) (some w.2) n 99 false (by simp) (by simp) (by simp; omega) (by simp; omega)
    simp only [od] at q
    simp [lcF, wD, q]
  have k3 : ∀ x1 x2 x3 x5 x6, lcGo (lcF gl (cl gl Ps (n + 3)) (T.call 4 ((T.var 4).cons ((T.glo 3).cons ((T.con (PyData.bool true)).cons T.nil)))) (G.nm 4) (T.con (PyData.bool true)) [4]) (e.tp.map tD) [x1, x2, x3, x5, none, x6, none] = some (e.tp.map (fun _ => O.val (.bool true)), [x1, x2, x3, x5, none, x6, none]) := by
    intro x1 x2 x3 x5 x6
    refine lcGo_enc (fun _ => O.val (.bool true)) fun t ht => ?_
    obtain ⟨g1, g2⟩ := he.tp t ht
    have q := c_pair_is_right t.1 t.2 n 999 true (by simp) (by simp) (fun i hi => g1 i hi) (fun i hi => g2 i hi)
    simp [lcF, tD, q]
  have z1 : e.am.length ≤ sizeLine := by unfold sizeLine; omega
  have z2 : e.wy.length ≤ sizeLine := by unfold sizeLine; omega
  have z3 : e.tp.length ≤ sizeLine := by unfold sizeLine; omega
  have z4 : (1 : Int) ≤ e.am.length := by omega
  have z5 : (e.am.length : Int) ≤ 10 := by omega
  have z6 : (e.wy.length : Int) = e.am.length - 1 := by omega
  rw [r_earth_is_right]
  simp [s_earth_is_right, eD, cutO, plainAt, k1, k2, k3, z1, z2, z3, z4, z5, z6, h4]

theorem c_is_row (v : PyData) (m n : Nat) (hm : m ≤ 1000) (h : nd v = true) : cl gl Ps (n + 2) 6 [.val v, .val (.int m)] = some (.val (.bool (isRow v m)), [none, none]) := by
  rw [r_is_row]
  cases v with
  | tuple ds =>
    have k1 : ∀ x1 x2, lcGo (lcF gl (cl gl Ps (n + 1)) (T.call 1 ((T.var 2).cons T.nil)) (G.nm 2) (T.con (PyData.bool true)) [2]) ds [x1, x2, none] = some (ds.map (fun d => O.val (.bool (isI d))), [x1, x2, none]) := by
      intro x1 x2
      refine lcGo_map _ fun d hd => ?_
      have := nds_mem (by simpa using h) d hd
      simp [lcF, this]
    by_cases hl : ds.length = m
    · have z : m ≤ sizeLine := by unfold sizeLine; omega
      subst hl
      simp [s_is_row, k1, plainAt, z, isRow]
    · have : ¬ (ds.length : Int) = m := by omega
      simp [s_is_row, this, isRow, hl]
  | dict _ => simp at h
  | _ => simp [s_is_row, isRow]
theorem c_tips_are_kept (o : Option Int × Option Int → Option Int) (at_ : Int) (tp : List (Option Int × Option Int)) (xs : List Int) (n : Nat) (hl : tp.length ≤ 1000) (ho : (at_ = 0 ∧ o = Prod.fst) ∨ (at_ = 1 ∧ o = Prod.snd)) :
    cl gl Ps (n + 1) 7 [.val (.tuple (tp.map tD)), .val (.tuple (xs.map PyData.int)), .val (.int at_)] = some (.val (.bool (kept o tp xs)), [none, none, none]) := by
  have k1 : ∀ x1 x2, lcGo (lcF gl (cl gl Ps n) (((T.cmp Cop.ge (T.var 4) (T.con (PyData.int 0))).and ((T.cmp Cop.isnt ((T.var 3).idx (T.var 2)) (T.con PyData.none)).or (T.cmp Cop.eq (T.var 4) (T.con (PyData.int 0)))))) (G.tp ((G.nm 3).cons ((G.nm 4).cons G.nil))) (T.con (PyData.bool true)) [3, 4]) ((tp.zip xs).map fun p => .tuple [tD p.1, .int p.2]) [x1, x2, some (.val (.int at_)), none, none] =
      some ((tp.zip xs).map (fun p => O.val (.bool (decide (0 ≤ p.2) && ((o p.1).isSome || decide (p.2 = 0))))), [x1, x2, some (.val (.int at_)), none, none]) := by
    intro x1 x2
    refine lcGo_enc _ fun p hp => ?_
    obtain ⟨⟨t1, t2⟩, x⟩ := p
    by_cases hx : 0 ≤ x
    · rcases ho with ⟨rfl, rfl⟩ | ⟨rfl, rfl⟩
      · cases t1 <;> simp [lcF, tD, od, hx]
      · cases t2 <;> simp [lcF, tD, od, hx]
    · simp [lcF, tD, hx]
  have z : (tp.zip xs).length ≤ sizeLine := by rw [List.length_zip]; unfold sizeLine; omega
  simp only [List.length_zip] at z
  rw [r_tips_are_kept]
  simp [s_tips_are_kept, zipE_2, zip2_map, k1, plainAt, z, kept]
theorem c_check_earth (e : E) (he : ok e) (n : Nat) : cl gl Ps (n + 5) 9 [.val (eD e)] = some (.val .none, [none]) := by
  rw [r_check_earth]
  simp [s_check_earth, c_earth_is_right e he n]
theorem c_plan_is_right (e : E) (he : ok e) (v : PyData) (n : Nat) (h : nd v = true) : cl gl Ps (n + 3) 8 [.val (eD e), .val v] = some (.val (.bool (isPlan e v)), [none, none]) := by
  have h1 := he.l1; have h2 := he.l2; have h3 := he.lw; have h4 := he.lt
  rw [r_plan_is_right]
  cases v with
  | dict _ => simp at h
  | tuple ds =>
    by_cases hl : ds.length = 3
    · obtain ⟨a, b, c, rfl⟩ := three hl
      have hn : (nd a = true ∧ nd b = true) ∧ nd c = true := by simpa [and_assoc] using h
      have ra := c_is_row a e.wy.length n (by omega) hn.1.1
      have rb := c_is_row b e.am.length n (by omega) hn.1.2
      have rc := c_is_row c e.am.length n (by omega) hn.2
      by_cases qa : isRow a e.wy.length = true
      · by_cases qb : isRow b e.am.length = true
        · by_cases qc : isRow c e.am.length = true
          · obtain ⟨hs, rfl, lh⟩ := isRow_inv qa
            obtain ⟨bs, rfl, lb⟩ := isRow_inv qb
            obtain ⟨dd, rfl, ld⟩ := isRow_inv qc
            have kb := c_tips_are_kept Prod.fst 0 e.tp bs (n + 1) (by omega) (.inl ⟨rfl, rfl⟩)
            have kd := c_tips_are_kept Prod.snd 1 e.tp dd (n + 1) (by omega) (.inr ⟨rfl, rfl⟩)
            have e0 : isPlan e (.tuple [.tuple (hs.map PyData.int), .tuple (bs.map PyData.int), .tuple (dd.map PyData.int)]) = isPlanR e hs bs dd := isPlan_plD
            by_cases qk : kept Prod.fst e.tp bs = true
            · by_cases ql : kept Prod.snd e.tp dd = true
              · have e1 : isPlanR e hs bs dd = decide (hauls 0 e.am bs dd = hs ++ [0]) := by
                  unfold isPlanR
                  rw [qk, ql, decide_eq_true (show hs.length + 1 = e.am.length by omega), decide_eq_true lb, decide_eq_true ld]
                  rfl
                simp [s_plan_is_right, eD, ra, rb, rc, kb, kd, qa, qb, qc, qk, ql, enumD_map, e0, e1]
                generalize hF : forGo _ _ _ _ = F
                obtain ⟨r1, rfl, k, x, y, rfl, _⟩ := for_foldM hF rfl (fun l r => ∃ k x y, r = [some (.val (eD e)), some (.val (.tuple [.tuple (hs.map PyData.int), .tuple (bs.map PyData.int), .tuple (dd.map PyData.int)])), some (.val (.int k)), some (.val (.str "earth")), some (.val (amD e)), some (.val (wyD e)), some (.val (tpD e)), x, y] ∧ ∀ l1, l = some l1 → k = l1)
                  (stp e.wy.length hs bs dd) (o := .val (.bool false)) ⟨0, none, none, rfl, fun _ h => Option.some.inj h⟩ (by
                    rintro ⟨a, i⟩ hi l r ⟨k, x, y, rfl, hk⟩
                    obtain rfl := hk l rfl
                    obtain ⟨_, hi, _⟩ := List.mem_zipIdx hi
                    obtain ⟨b, hb⟩ := get_some (xs := bs) (i := i) (by omega)
                    obtain ⟨d, hd⟩ := get_some (xs := dd) (i := i) (by omega)
                    have gb : bs.getD i 0 = b := by rw [List.getD_eq_getElem?_getD, hb]; rfl
                    have gd : dd.getD i 0 = d := by rw [List.getD_eq_getElem?_getD, hd]; rfl
                    simp only [stp, gb, gd]
                    by_cases hw : i < e.wy.length
                    · obtain ⟨c, hc⟩ := get_some (xs := hs) (i := i) (by omega)
                      have gc : hs.getD i 0 = c := by rw [List.getD_eq_getElem?_getD, hc]; rfl
                      rw [gc, if_pos hw]
                      by_cases hz : k + a + b - d = c
                      · simp [hb, hd, hc, hw, hz]
                      · simp [hb, hd, hc, hw, hz]
                    · rw [if_neg hw]
                      by_cases hz : k + a + b - d = 0
                      · simp [hb, hd, hw, hz]
                      · simp [hb, hd, hw, hz])
                rw [stp_hauls (hs := hs) (bs := bs) (ds := dd) (by omega) lb ld (by omega) rfl rfl rfl]
                by_cases hz : hauls 0 e.am bs dd = hs ++ [0] <;> simp [hz]
              · have : isPlanR e hs bs dd = false := by
                  unfold isPlanR
                  simp [(Bool.not_eq_true _).mp ql]
                simp [s_plan_is_right, eD, ra, rb, rc, kb, kd, qa, qb, qc, qk, ql, e0, this]
            · have : isPlanR e hs bs dd = false := by
                unfold isPlanR
                simp [(Bool.not_eq_true _).mp qk]
              simp [s_plan_is_right, eD, ra, rb, rc, kb, kd, qa, qb, qc, qk, e0, this]
          · have : isPlan e (.tuple [a, b, c]) = false := (Bool.not_eq_true _).mp fun hh => qc (isPlan_rows hh h3).2.2
            simp [s_plan_is_right, eD, ra, rb, rc, qa, qb, qc, this]
        · have : isPlan e (.tuple [a, b, c]) = false := (Bool.not_eq_true _).mp fun hh => qb (isPlan_rows hh h3).2.1
          simp [s_plan_is_right, eD, ra, rb, qa, qb, this]
      · have : isPlan e (.tuple [a, b, c]) = false := (Bool.not_eq_true _).mp fun hh => qa (isPlan_rows hh h3).1
        simp [s_plan_is_right, eD, ra, qa, this]
    · have e1 : isPlan e (.tuple ds) = false := (Bool.not_eq_true _).mp fun hh => by
        obtain ⟨_, _, _, e1, _⟩ := isPlan_inv hh
        unfold plD at e1
        simp only [PyData.tuple.injEq] at e1
        rw [e1] at hl
        exact hl rfl
      have : ¬ (ds.length : Int) = 3 := by omega
      simp [s_plan_is_right, eD, this, e1]
  | _ => simp [s_plan_is_right, eD, isPlan]

theorem c_cost_of (e : E) (he : ok e) (hs bs ds : List Int) (n : Nat) (hk : kept (·.1) e.tp bs = true) (hd : kept (·.2) e.tp ds = true) : cl gl Ps (n + 1) 11 [.val (eD e), .val (plD hs bs ds)] = some (.val (.int (costR e hs bs ds)), [none, none]) := by
  have h1 := he.l1; have h2 := he.l2; have h3 := he.lw; have h4 := he.lt
  rw [r_cost_of]
  have z : (e.wy.zip hs).length ≤ sizeLine := by rw [List.length_zip]; unfold sizeLine; omega
  simp only [List.length_zip] at z
  simp [s_cost_of, eD, plD, zipE_2, zip2_map, plainAt]
  generalize hF : lcGo _ _ _ = F
  have hF := lc_enc hF rfl (fun p => O.val (.int (hl p.1 p.2))) (by
    rintro ⟨⟨w1, w2⟩, m⟩ hi
    have q := he.wy _ (List.of_mem_zip hi).1
    simp only at q
    have q1 : ∀ j, mulOk w1 j = true := fun j => mulOk_l (by omega) (by omega)
    have q2 : ∀ j, mulOk w2 j = true := fun j => mulOk_l (by omega) (by omega)
    simp [lcF, wD, binD_mul, q1, q2, hl])
  subst hF
  simp [z, zipE_3, zip3_map]
  generalize hF : forGo _ _ _ _ = F
  obtain ⟨r1, rfl, x1, x2, x3, x4, x5, x6, rfl⟩ := for_fold hF rfl (fun s r => ∃ x1 x2 x3 x4 x5 x6, r = [some (.val (eD e)), some (.val (plD hs bs ds)), some (.val (.int s)), x1, x2, x3, x4, x5, x6]) (fun s p => s + (tc p.1.1 p.2.1 + tc p.1.2 p.2.2)) ⟨none, none, none, none, none, none, rfl⟩ (by
    rintro ⟨⟨t1, t2⟩, m, l⟩ hi s r ⟨x1, x2, x3, x4, x5, x6, rfl⟩
    obtain ⟨m1, m2⟩ := zip3_mem1 hi
    obtain ⟨a1, a2⟩ := kept_mem hk m1
    obtain ⟨b1, b2⟩ := kept_mem hd m2
    obtain ⟨q1, q2⟩ := mulOk_tip (he.tp _ (List.of_mem_zip m1).1)
    by_cases y : 0 < m
    · obtain ⟨b, rfl⟩ : ∃ b, t1 = some b := Option.isSome_iff_exists.mp (a2.resolve_right (by omega))
      have q1 := q1 b rfl
      by_cases z : 0 < l
      · obtain ⟨d, rfl⟩ : ∃ d, t2 = some d := Option.isSome_iff_exists.mp (b2.resolve_right (by omega))
        have q2 := q2 d rfl
        simp [tD, od, y, z, tc, binD_mul, q1, q2]
      · simp [tD, od, y, z, tc, binD_mul, q1]
    · by_cases z : 0 < l
      · obtain ⟨d, rfl⟩ : ∃ d, t2 = some d := Option.isSome_iff_exists.mp (b2.resolve_right (by omega))
        have q2 := q2 d rfl
        simp [tD, y, z, tc, binD_mul, q2, od]
      · simp [tD, y, z, tc])
  rw [foldl_sum]
  simp [costR]

theorem nd_plD {hs bs ds : List Int} : nd (plD hs bs ds) = true := by simp [plD]
theorem nd_prD {hs : List Int} : nd (prD hs) = true := by simp [prD]
theorem c_check_plan (e : E) (he : ok e) (hs bs ds : List Int) (n : Nat) (h : isPlanR e hs bs ds = true) : cl gl Ps (n + 6) 10 [.val (eD e), .val (plD hs bs ds)] = some (.val .none, [none, none]) := by
  have q : isPlan e (plD hs bs ds) = true := by rw [isPlan_plD]; exact h
  rw [r_check_plan]
  simp [s_check_plan, c_check_earth e he, c_plan_is_right e he (plD hs bs ds) (n + 2) nd_plD, q]
theorem c_cost (e : E) (he : ok e) (hs bs ds : List Int) (n : Nat) (h : isPlanR e hs bs ds = true) : cl gl Ps (n + 7) 19 [.val (eD e), .val (plD hs bs ds)] = some (.val (.int (costR e hs bs ds)), [none, none]) := by
  have h2 := h
  simp only [isPlanR, Bool.and_eq_true] at h2
  rw [r_cost]
  simp [s_cost, c_check_plan e he hs bs ds n h, c_cost_of e he hs bs ds (n + 5) h2.1.1.2 h2.1.2]
def meetB (e : E) (u v : PyData) : Bool := match u, v with
  | .tuple [.tuple h, .tuple b, .tuple d], .tuple p => (match intL h, intL b, intL d, intL p with
    | some hs, some bs, some ds, some ps => isPlanR e hs bs ds && arePricesR e ps && decide (costR e hs bs ds = boundR e ps)
    | _, _, _, _ => false)
  | _, _ => false
theorem meet_plpr {e : E} {hs bs ds ps : List Int} : meetB e (plD hs bs ds) (prD ps) = (isPlanR e hs bs ds && arePricesR e ps && decide (costR e hs bs ds = boundR e ps)) := by
  simp [meetB, plD, prD]
theorem meet_no {e : E} {u v : PyData} (h : isPlan e u = false ∨ arePrices e v = false) : meetB e u v = false := by
  unfold meetB
  split
  · rename_i h1 b1 d1 p1
    split
    · rename_i hs bs ds ps e1 e2 e3 e4
      rw [intL_some e1, intL_some e2, intL_some e3, intL_some e4] at h
      rcases h with h | h
      · rw [show isPlan e (.tuple [.tuple (hs.map PyData.int), .tuple (bs.map PyData.int), .tuple (ds.map PyData.int)]) = isPlanR e hs bs ds from isPlan_plD] at h
        simp [h]
      · rw [show arePrices e (.tuple (ps.map PyData.int)) = arePricesR e ps from arePrices_prD] at h
        simp [h]
    · rfl
  · rfl
end K91

end
section
set_option maxHeartbeats 4000000
/-! K91B: what the law draws. -/
namespace K91
open PySem Mi Pl Er
def potO (p : Int × Int) : O := .lst [.val (.int p.1), .val (.int p.2)]
def pOk (p : Int × Int) : Prop := 0 ≤ p.1 ∧ 0 ≤ p.2 ∧ p.2 < 2 ^ 33
@[simp] theorem isVal_pot {p : Int × Int} : (potO p).isVal = false := rfl
def dg (p : Int × Int) (m : Int) : Int := if 0 < p.1 then p.1 % m else (((p.2 * 39373 + 1667) % 2147483587) * ((p.2 * 39373 + 1667) % 2147483587) % 2147483563 / 19) % m
def nx (p : Int × Int) (m : Int) : Int × Int := if 0 < p.1 then (p.1 / m, p.2) else (p.1, (p.2 * 39373 + 1667) % 2147483587)
theorem nx_ok {p : Int × Int} {m : Int} (h : pOk p) (hm : 1 ≤ m) : pOk (nx p m) := by
  obtain ⟨h1, h2, h3⟩ := h
  unfold nx
  split
  · exact ⟨Int.ediv_nonneg h1 (by omega), h2, h3⟩
  · exact ⟨h1, by simp only; omega, by simp only; omega⟩
theorem dg_ok {p : Int × Int} {m : Int} (hm : 1 ≤ m) : 0 ≤ dg p m ∧ dg p m < m := by
  unfold dg
  split
  · exact ⟨Int.emod_nonneg _ (by omega), Int.emod_lt_of_pos _ (by omega)⟩
  · exact ⟨Int.emod_nonneg _ (by omega), Int.emod_lt_of_pos _ (by omega)⟩
theorem c__law_draw (p : Int × Int) (hp : pOk p) (m : Int) (h1 : 1 ≤ m) (h2 : m < 1073741824) (n : Nat) : cl gl Ps (n + 1) 26 [potO p, .val (.int m)] = some (.val (.int (dg p m)), [some (potO (nx p m)), none]) := by
  obtain ⟨a, b⟩ := p
  obtain ⟨g1, g2, g3⟩ := hp
  simp only at g1 g2 g3
  rw [r__law_draw]
  have hm : 0 < m := by omega
  by_cases h : 0 < a
  · simp [s__law_draw, potO, h, biE_divmod, hm, h2, dg, nx]
  · have q1 : ∀ j, mulOk b j = true := fun j => mulOk_l (by omega) (by omega)
    have q2 : ∀ j, mulOk ((b * 39373 + 1667) % 2147483587) j = true := fun j => mulOk_l (by omega) (by omega)
    simp [s__law_draw, potO, h, binD_mul, q1, q2, binD_mod, binD_fdiv, hm, dg, nx]
theorem c__law_pick (p : Int × Int) (hp : pOk p) (ds : List PyData) (h1 : 1 ≤ ds.length) (h2 : ds.length ≤ 1000) (n : Nat) : ∃ d, d ∈ ds ∧ cl gl Ps (n + 2) 27 [potO p, .lst (ds.map O.val)] = some (.val d, [some (potO (nx p ds.length)), none]) := by
  have q := c__law_draw p hp ds.length (by omega) (by omega) n
  obtain ⟨g1, g2⟩ := dg_ok (p := p) (m := ds.length) (by omega)
  obtain ⟨k, hk⟩ : ∃ k : Nat, dg p ds.length = k := ⟨(dg p ds.length).toNat, by omega⟩
  rw [hk] at q g2
  obtain ⟨d, hd⟩ := get_some (xs := ds) (i := k) (by omega)
  refine ⟨d, List.mem_of_getElem? hd, ?_⟩
  rw [r__law_pick]
  simp [s__law_pick, q, hd]
theorem pick_k (p : Int × Int) (hp : pOk p) (ds : List PyData) (h1 : 1 ≤ ds.length) (h2 : ds.length ≤ 1000) (n : Nat) : ∃ d, d ∈ ds ∧ ∀ os, os = ds.map O.val → cl gl Ps (n + 2) 27 [potO p, .lst os] = some (.val d, [some (potO (nx p ds.length)), none]) := by
  obtain ⟨d, h, q⟩ := c__law_pick p hp ds h1 h2 n
  exact ⟨d, h, fun os e => by rw [e]; exact q⟩
theorem c__law_pot (ns : List Int) (k : Nat) (hk : k ≤ 1000) (n : Nat) : ∃ p, pOk p ∧ cl gl Ps (n + 1) 25 [.scr ns, .val (.int k)] = some (potO p, [none, none]) := by
  rw [r__law_pot]
  have q0 : ∀ j : Int, mulOk j (k : Int) = true := fun j => mulOk_r (by omega) (by omega)
  have q1 : ∀ j i : Int, mulOk (j % 2147483549) i = true := fun j i => mulOk_l (by omega) (by omega)
  have e18 : binD .pow (.int 10) (.int 18) = some (.val (.int (10 ^ 18))) := by
    show (if (0 : Int) ≤ 18 ∧ (18 : Int) ≤ 1000000 ∧ (10 : Int).natAbs < 2 ^ 64 then iv ((10 : Int) ^ (18 : Int).toNat) else none) = _
    rw [if_pos (by decide)]
    rfl
  have key : ∀ x, x = endK [false, false] (ex gl (cl gl Ps n) s__law_pot [some (O.scr ns), some (O.val (PyData.int (k : Int))), none]) → ∃ p, pOk p ∧ x = some (potO p, [none, none]) := by
    intro x hx
    by_cases h : (k : Int) < ns.length
    · obtain ⟨y, hy⟩ := get_some (xs := ns) (i := k) (by omega)
      simp [s__law_pot, h, hy, binD_mul, binD_mod, q0, q1, e18] at hx
      subst hx
      refine ⟨(_, _), ?_, rfl⟩
      exact ⟨by simp only; omega, by simp only; omega, by simp only; omega⟩
    · simp [-List.map_take, s__law_pot, h, binD_mul, binD_mod, q0, q1, e18] at hx
      subst hx
      refine ⟨(_, _), ?_, rfl⟩
      exact ⟨by simp only; omega, by simp only; omega, by simp only; omega⟩
  exact key _ rfl
end K91

end
section
set_option maxHeartbeats 4000000
/-! K91C: drawn earth. -/
namespace K91
open PySem Mi Pl Er
abbrev iO (a : Int) : O := .val (.int a)
theorem oOk_none : oOk none := fun i e => by cases e
theorem oOk_some {a m : Int} (h : 0 ≤ a ∧ a < m) (hm : m ≤ 1000) : oOk (some a) := fun i e => by cases e; omega
theorem tp_snoc {tp : List (Option Int × Option Int)} {a b : Option Int} (h : ∀ t ∈ tp, oOk t.1 ∧ oOk t.2) (ha : oOk a) (hb : oOk b) : ∀ t ∈ tp ++ [(a, b)], oOk t.1 ∧ oOk t.2 := fun t ht => by
  rcases List.mem_append.mp ht with ht | ht
  · exact h t ht
  · rw [List.mem_singleton] at ht
    subst ht
    exact ⟨ha, hb⟩
theorem c__law_earth (p : Int × Int) (hp : pOk p) (most : Nat) (h1 : 1 ≤ most) (h2 : most ≤ 10) (n : Nat) : ∃ e q, ok e ∧ pOk q ∧ cl gl Ps (n + 2) 28 [potO p, .val (.int most)] = some (.val (eD e), [some (potO q), none]) := by
  obtain ⟨g1, g2⟩ := dg_ok (p := p) (m := most) (by omega)
  have hn := nx_ok (m := most) hp (by omega)
  generalize ep : nx p most = p0 at hn
  obtain ⟨k, hk⟩ : ∃ k : Nat, dg p most = k := ⟨(dg p most).toNat, by omega⟩
  have dr := fun (p : Int × Int) (hp : pOk p) (m : Int) (h1 : 1 ≤ m) (h2 : m < 1073741824) => c__law_draw p hp m h1 h2 n
  have r1 : rngE [.val (.int (1 + (k : Int)))] = some ((List.range (k + 1)).map fun i => PyData.int (i : Nat)) := by
    rw [rngE_int (by omega) (by omega), show (1 + (k : Int)).toNat = k + 1 by omega]
  have r2 : rngE [.val (.int (1 + (k : Int) - 1))] = some ((List.range k).map fun i => PyData.int (i : Nat)) := by
    rw [rngE_int (by omega) (by omega), show (1 + (k : Int) - 1).toNat = k by omega]
  have hk2 : k < 10 := by omega
  have z0 : k + 1 ≤ sizeLine := by unfold sizeLine; omega
  have z1 : k ≤ sizeLine := by unfold sizeLine; omega
  have key : ∀ x, x = cl gl Ps (n + 2) 28 [potO p, .val (.int most)] → ∃ e q, ok e ∧ pOk q ∧ x = some (.val (eD e), [some (potO q), none]) := by
    intro x hx
    rw [r__law_earth] at hx
    simp [s__law_earth, dr p hp most (by omega) (by omega), ep, hk, plainAt, r1, r2] at hx
    generalize hF : lcGo _ _ _ = F at hx
    obtain ⟨os, p1, r1', e1, ⟨ok1, rfl⟩, l1, am, rfl, ha⟩ := lc_st hF rfl (fun p r => pOk p ∧ r = [some (potO p), some (.val (.int most)), some (.val (.int (1 + (k : Int)))), none, none, none, none, none, none, none, none, none])
      (fun _ os _ => ∃ am : List Int, os = am.map iO ∧ ∀ a ∈ am, -3 ≤ a ∧ a ≤ 3) (fun _ => ⟨[], rfl, by simp⟩) ⟨hn, rfl⟩ (by
        rintro i hi s r ⟨hs, rfl⟩
        have b := dg_ok (p := s) (m := 7) (by omega)
        refine ⟨iO (dg s 7 - 3), nx s 7, _, ?_, ⟨nx_ok hs (by omega), rfl⟩, ?_⟩
        · simp [lcF, dr s hs 7 (by omega) (by omega)]
        · rintro os s2 ⟨am, rfl, h⟩
          exact ⟨(dg s 7 - 3) :: am, rfl, fun a ha => by
            rcases List.mem_cons.mp ha with rfl | ha
            · omega
            · exact h a ha⟩)
    rw [e1] at hx
    clear e1 hF
    simp only [List.length_map, List.length_range] at l1
    simp [l1, z0, plainAt, r2] at hx
    generalize hF : lcGo _ _ _ = F at hx
    obtain ⟨os, p2, r2', e1, ⟨ok2, rfl⟩, l2, wy, rfl, hw⟩ := lc_st hF rfl (fun p r => pOk p ∧ r = [some (potO p), some (.val (.int most)), some (.val (.int (1 + (k : Int)))), some (.lst (am.map iO)), none, none, none, none, none, none, none, none])
      (fun _ os _ => ∃ wy : List (Int × Int), os = wy.map (fun w => O.val (wD w)) ∧ ∀ w ∈ wy, (0 ≤ w.1 ∧ w.1 ≤ 99) ∧ 0 ≤ w.2 ∧ w.2 ≤ 99) (fun _ => ⟨[], rfl, by simp⟩) ⟨ok1, rfl⟩ (by
        rintro i hi s r ⟨hs, rfl⟩
        have b := dg_ok (p := s) (m := 5) (by omega)
        have hs2 := nx_ok (m := 5) hs (by omega)
        have b2 := dg_ok (p := nx s 5) (m := 5) (by omega)
        refine ⟨.val (wD (dg s 5, dg (nx s 5) 5)), nx (nx s 5) 5, _, ?_, ⟨nx_ok hs2 (by omega), rfl⟩, ?_⟩
        · simp [lcF, dr s hs 5 (by omega) (by omega), dr _ hs2 5 (by omega) (by omega), wD]
        · rintro os s2 ⟨wy, rfl, h⟩
          exact ⟨(dg s 5, dg (nx s 5) 5) :: wy, rfl, fun a ha => by
            rcases List.mem_cons.mp ha with rfl | ha
            · simp only; omega
            · exact h a ha⟩)
    rw [e1] at hx
    clear e1 hF
    simp only [List.length_map, List.length_range] at l2
    simp [l2, z1, r1] at hx
    generalize hF : forGo _ _ _ _ = F at hx
    obtain ⟨r3, e1, p3, tp, bu, dr3, y5, y9, y10, y11, ok3, lt, ht, rfl⟩ := for_cnt hF rfl (fun k' r => ∃ p tp bu du x5 x9 x10 x11, pOk p ∧ tp.length = k' ∧ (∀ t ∈ tp, oOk t.1 ∧ oOk t.2) ∧ r = [some (potO p), some (.val (.int most)), some (.val (.int (1 + (k : Int)))), some (.lst (am.map iO)), some (.val (.tuple (wy.map wD))), x5, some (.lst (tp.map fun t => O.val (tD t))), some (.val (.int bu)), some (.val (.int du)), x9, x10, x11])
      ⟨p2, [], 0, 0, none, none, none, none, ok2, rfl, by simp, rfl⟩ (by
        rintro i hi k' r hk' ⟨s, tp, bu, du, x5, x9, x10, x11, hs, lt, ht, rfl⟩
        rw [List.length_range] at hk'
        have zk : tp.length < sizeLine := by unfold sizeLine; omega
        have hs1 := nx_ok (m := 3) hs (by omega)
        have hs2 := nx_ok (m := 9) hs1 (by omega)
        by_cases b1 : bu < 2
        · by_cases b2 : dg s 3 = 0
          · have hd1 := nx_ok (m := 3) hs2 (by omega)
            have hd2 := nx_ok (m := 9) hd1 (by omega)
            by_cases d1 : du < 2
            · by_cases d2 : dg (nx (nx s 3) 9) 3 = 0
              · refine ⟨_, by simp [b1, b2, dr s hs 3 (by omega) (by omega), dr (nx s 3) hs1 9 (by omega) (by omega), d1, d2, dr (nx (nx s 3) 9) hs2 3 (by omega) (by omega), dr (nx (nx (nx s 3) 9) 3) hd1 9 (by omega) (by omega), zk]; rfl, nx (nx (nx (nx s 3) 9) 3) 9, tp ++ [(some (dg (nx s 3) 9), some (dg (nx (nx (nx s 3) 9) 3) 9))], _, _, _, _, _, _, hd2, by simp [lt], tp_snoc ht (oOk_some (dg_ok (by omega)) (by omega)) (oOk_some (dg_ok (by omega)) (by omega)), by rw [List.map_append]; rfl⟩
              · refine ⟨_, by simp [b1, b2, dr s hs 3 (by omega) (by omega), dr (nx s 3) hs1 9 (by omega) (by omega), d1, d2, dr (nx (nx s 3) 9) hs2 3 (by omega) (by omega), zk]; rfl, nx (nx (nx s 3) 9) 3, tp ++ [(some (dg (nx s 3) 9), none)], _, _, _, _, _, _, hd1, by simp [lt], tp_snoc ht (oOk_some (dg_ok (by omega)) (by omega)) oOk_none, by rw [List.map_append]; rfl⟩
            · refine ⟨_, by simp [b1, b2, dr s hs 3 (by omega) (by omega), dr (nx s 3) hs1 9 (by omega) (by omega), d1, zk]; rfl, nx (nx s 3) 9, tp ++ [(some (dg (nx s 3) 9), none)], _, _, _, _, _, _, hs2, by simp [lt], tp_snoc ht (oOk_some (dg_ok (by omega)) (by omega)) oOk_none, by rw [List.map_append]; rfl⟩
          · have hd1 := nx_ok (m := 3) hs1 (by omega)
            have hd2 := nx_ok (m := 9) hd1 (by omega)
            by_cases d1 : du < 2
            · by_cases d2 : dg (nx s 3) 3 = 0
              · refine ⟨_, by simp [b1, b2, dr s hs 3 (by omega) (by omega), d1, d2, dr (nx s 3) hs1 3 (by omega) (by omega), dr (nx (nx s 3) 3) hd1 9 (by omega) (by omega), zk]; rfl, nx (nx (nx s 3) 3) 9, tp ++ [(none, some (dg (nx (nx s 3) 3) 9))], _, _, _, _, _, _, hd2, by simp [lt], tp_snoc ht oOk_none (oOk_some (dg_ok (by omega)) (by omega)), by rw [List.map_append]; rfl⟩
              · refine ⟨_, by simp [b1, b2, dr s hs 3 (by omega) (by omega), d1, d2, dr (nx s 3) hs1 3 (by omega) (by omega), zk]; rfl, nx (nx s 3) 3, tp ++ [(none, none)], _, _, _, _, _, _, hd1, by simp [lt], tp_snoc ht oOk_none oOk_none, by rw [List.map_append]; rfl⟩
            · refine ⟨_, by simp [b1, b2, dr s hs 3 (by omega) (by omega), d1, zk]; rfl, nx s 3, tp ++ [(none, none)], _, _, _, _, _, _, hs1, by simp [lt], tp_snoc ht oOk_none oOk_none, by rw [List.map_append]; rfl⟩
        · have hd1 := nx_ok (m := 3) hs (by omega)
          have hd2 := nx_ok (m := 9) hd1 (by omega)
          by_cases d1 : du < 2
          · by_cases d2 : dg (s) 3 = 0
            · refine ⟨_, by simp [b1, d1, d2, dr (s) hs 3 (by omega) (by omega), dr (nx (s) 3) hd1 9 (by omega) (by omega), zk]; rfl, nx (nx (s) 3) 9, tp ++ [(none, some (dg (nx (s) 3) 9))], _, _, _, _, _, _, hd2, by simp [lt], tp_snoc ht oOk_none (oOk_some (dg_ok (by omega)) (by omega)), by rw [List.map_append]; rfl⟩
            · refine ⟨_, by simp [b1, d1, d2, dr (s) hs 3 (by omega) (by omega), zk]; rfl, nx (s) 3, tp ++ [(none, none)], _, _, _, _, _, _, hd1, by simp [lt], tp_snoc ht oOk_none oOk_none, by rw [List.map_append]; rfl⟩
          · refine ⟨_, by simp [b1, d1, zk]; rfl, s, tp ++ [(none, none)], _, _, _, _, _, _, hs, by simp [lt], tp_snoc ht oOk_none oOk_none, by rw [List.map_append]; rfl⟩)
    rw [e1] at hx
    clear e1 hF
    simp only [List.length_map, List.length_range] at lt
    have ok4 := nx_ok (m := 2) ok3 (by omega)
    have hok : ∀ am' : List Int, am'.length = k + 1 → (∀ a ∈ am', -99 ≤ a ∧ a ≤ 99) → ok ⟨am', wy, tp⟩ := fun am' e1 e2 => ⟨by simp only; omega, by simp only; omega, by simp only; omega, by simp only; omega, e2, hw, ht⟩
    have l1' : am.length = k + 1 := l1
    have hv : vals (tp.map fun t => O.val (tD t)) = some (tp.map tD) := vals_mapf _ _
    have hv2 : vals (am.map iO) = some (am.map PyData.int) := vals_mapf _ _
    have dl : (List.map PyData.int am).dropLast.map O.val = am.dropLast.map fun x => O.val (.int x) := by
      rw [← List.map_dropLast, List.map_map]; rfl
    have hv3 : ∀ y : Int, vals ((am.map iO).set k (O.val (.int y))) = some ((am.set k y).map PyData.int) := fun y => by
      have : (am.map iO).set k (O.val (.int y)) = (am.set k y).map iO := by rw [List.map_set]
      rw [this]
      exact vals_mapf _ _
    by_cases hz : dg p3 2 = 0
    · simp [-List.map_map, -List.map_dropLast, dr p3 ok3 2 (by omega) (by omega), hz, hv, hv2, cutL_but, dl, ixN_last, l1', hv3] at hx
      exact ⟨⟨am.set k (max (-9) (min 9 (-am.dropLast.sum))), wy, tp⟩, _, hok _ (by rw [List.length_set]; exact l1') (fun a ha' => by
        rcases List.mem_or_eq_of_mem_set ha' with h | h
        · have := ha a h; omega
        · omega), ok4, by rw [hx]; simp only [eD, amD, List.map_set]⟩
    · simp [dr p3 ok3 2 (by omega) (by omega), hz, hv, hv2] at hx
      exact ⟨⟨am, wy, tp⟩, _, hok am l1' fun a ha' => by have := ha a ha'; omega, ok4, hx⟩
  exact key _ rfl

theorem c__law_great (p : Int × Int) (hp : pOk p) (n : Nat) : ∃ e q, ok e ∧ pOk q ∧ cl gl Ps (n + 3) 41 [potO p] = some (.val (eD e), [some (potO q)]) := by
  have dr := fun (p : Int × Int) (hp : pOk p) (m : Int) (h1 : 1 ≤ m) (h2 : m < 1073741824) => c__law_draw p hp m h1 h2 (n + 1)
  have r1 : rngE [.val (.int 9)] = some ((List.range 9).map fun i => PyData.int (i : Nat)) := rngE_nat (n := 9) (by decide)
  have r2 : rngE [.val (.int 10)] = some ((List.range 10).map fun i => PyData.int (i : Nat)) := rngE_nat (n := 10) (by decide)
  have key : ∀ x, x = cl gl Ps (n + 3) 41 [potO p] → ∃ e q, ok e ∧ pOk q ∧ x = some (.val (eD e), [some (potO q)]) := by
    intro x hx
    rw [r__law_great] at hx
    simp [-List.map_map, -List.map_cons, -List.map_nil, s__law_great, plainAt, r1] at hx
    generalize hF : lcGo _ _ _ = F at hx
    obtain ⟨os, p2, r2', e1, ⟨ok2, rfl⟩, l2, wy, rfl, hw⟩ := lc_st hF rfl (fun p r => pOk p ∧ r = [some (potO p), none, none, none, none])
      (fun _ os _ => ∃ wy : List (Int × Int), os = wy.map (fun w => O.val (wD w)) ∧ ∀ w ∈ wy, (0 ≤ w.1 ∧ w.1 ≤ 99) ∧ 0 ≤ w.2 ∧ w.2 ≤ 99) (fun _ => ⟨[], rfl, by simp⟩) ⟨hp, rfl⟩ (by
        rintro i hi s r ⟨hs, rfl⟩
        have b := dg_ok (p := s) (m := 100) (by omega)
        have hs2 := nx_ok (m := 100) hs (by omega)
        have b2 := dg_ok (p := nx s 100) (m := 100) (by omega)
        refine ⟨.val (wD (dg s 100, dg (nx s 100) 100)), nx (nx s 100) 100, _, ?_, ⟨nx_ok hs2 (by omega), rfl⟩, ?_⟩
        · simp [lcF, dr s hs 100 (by omega) (by omega), dr _ hs2 100 (by omega) (by omega), wD]
        · rintro os s2 ⟨wy, rfl, h⟩
          exact ⟨(dg s 100, dg (nx s 100) 100) :: wy, rfl, fun a ha => by
            rcases List.mem_cons.mp ha with rfl | ha
            · simp only; omega
            · exact h a ha⟩)
    rw [e1] at hx
    clear e1 hF
    simp only [List.length_map, List.length_range] at l2
    simp [-List.map_map, l2, r2, plainAt] at hx
    generalize hF : lcGo _ _ _ = F at hx
    obtain ⟨os, p3, r3', e1, ⟨ok3, rfl⟩, l3, tp, rfl, ht⟩ := lc_st hF rfl (fun p r => pOk p ∧ r = [some (potO p), some (.val (.tuple (wy.map wD))), none, none, none])
      (fun _ os _ => ∃ tp : List (Option Int × Option Int), os = tp.map (fun t => O.val (tD t)) ∧ ∀ t ∈ tp, oOk t.1 ∧ oOk t.2) (fun _ => ⟨[], rfl, by simp⟩) ⟨ok2, rfl⟩ (by
        rintro i hi s r ⟨hs, rfl⟩
        have b := dg_ok (p := s) (m := 1000) (by omega)
        have hs2 := nx_ok (m := 1000) hs (by omega)
        have b2 := dg_ok (p := nx s 1000) (m := 1000) (by omega)
        have hs3 := nx_ok (m := 1000) hs2 (by omega)
        have mk : ∀ d ∈ [(.tuple [.none, .none] : PyData), .tuple [.int (dg s 1000), .none], .tuple [.none, .int (dg (nx s 1000) 1000)], .tuple [.int 999, .int 999]], ∃ t, d = tD t ∧ oOk t.1 ∧ oOk t.2 := by
          intro d hd
          simp only [List.mem_cons, List.not_mem_nil, or_false] at hd
          rcases hd with rfl | rfl | rfl | rfl
          · exact ⟨(none, none), rfl, oOk_none, oOk_none⟩
          · exact ⟨(some _, none), rfl, oOk_some b (by omega), oOk_none⟩
          · exact ⟨(none, some _), rfl, oOk_none, oOk_some b2 (by omega)⟩
          · exact ⟨(some 999, some 999), rfl, oOk_some (m := 1000) (by omega) (by omega), oOk_some (m := 1000) (by omega) (by omega)⟩
        obtain ⟨d, hd, q⟩ := c__law_pick (nx (nx s 1000) 1000) hs3 [(.tuple [.none, .none] : PyData), .tuple [.int (dg s 1000), .none], .tuple [.none, .int (dg (nx s 1000) 1000)], .tuple [.int 999, .int 999]] (by simp) (by simp) n
        obtain ⟨t, rfl, o1, o2⟩ := mk d hd
        refine ⟨.val (tD t), nx (nx (nx s 1000) 1000) 4, _, ?_, ⟨nx_ok hs3 (by omega), rfl⟩, ?_⟩
        · simp at q
          simp [lcF, dr s hs 1000 (by omega) (by omega), dr _ hs2 1000 (by omega) (by omega), q]
        · rintro os s2 ⟨tp, rfl, h⟩
          exact ⟨t :: tp, rfl, fun a ha => by
            rcases List.mem_cons.mp ha with rfl | ha
            · exact ⟨o1, o2⟩
            · exact h a ha⟩)
    rw [e1] at hx
    clear e1 hF
    simp only [List.length_map, List.length_range] at l3
    simp [-List.map_map, l3, r2, plainAt] at hx
    generalize hF : lcGo _ _ _ = F at hx
    obtain ⟨os, p1, r1', e1, ⟨ok1, rfl⟩, l1, am, rfl, ha⟩ := lc_st hF rfl (fun p r => pOk p ∧ r = [some (potO p), some (.val (.tuple (wy.map wD))), some (.val (.tuple (tp.map tD))), none, none])
      (fun _ os _ => ∃ am : List Int, os = am.map iO ∧ ∀ a ∈ am, -99 ≤ a ∧ a ≤ 99) (fun _ => ⟨[], rfl, by simp⟩) ⟨ok3, rfl⟩ (by
        rintro i hi s r ⟨hs, rfl⟩
        have b := dg_ok (p := s) (m := 199) (by omega)
        refine ⟨iO (dg s 199 - 99), nx s 199, _, ?_, ⟨nx_ok hs (by omega), rfl⟩, ?_⟩
        · simp [lcF, dr s hs 199 (by omega) (by omega)]
        · rintro os s2 ⟨am, rfl, h⟩
          exact ⟨(dg s 199 - 99) :: am, rfl, fun a ha => by
            rcases List.mem_cons.mp ha with rfl | ha
            · omega
            · exact h a ha⟩)
    rw [e1] at hx
    clear e1 hF
    simp only [List.length_map, List.length_range] at l1
    simp [l1] at hx
    exact ⟨⟨am, wy, tp⟩, _, ⟨by simp only; omega, by simp only; omega, by simp only; omega, by simp only; omega, ha, hw, ht⟩, ok1, hx⟩
  exact key _ rfl
theorem c__law_is_int (v : PyData) (n : Nat) (h : nd v = true) : cl gl Ps (n + 1) 34 [.val v] = some (.val (.bool (isI v)), [none]) := by
  rw [r__law_is_int]
  cases v <;> simp_all [s__law_is_int]
theorem c__law_hauled (w : Int × Int) (m : Int) (hw : (0 ≤ w.1 ∧ w.1 ≤ 99) ∧ 0 ≤ w.2 ∧ w.2 ≤ 99) (n : Nat) : cl gl Ps (n + 1) 29 [.val (wD w), .val (.int m)] = some (.val (.int (hl w m)), [none, none]) := by
  obtain ⟨a, b⟩ := w
  simp only at hw
  have q1 : ∀ j, mulOk j a = true := fun j => mulOk_r (by omega) (by omega)
  have q2 : ∀ j, mulOk j b = true := fun j => mulOk_r (by omega) (by omega)
  rw [r__law_hauled]
  by_cases h : 0 < m
  · have e : hl (a, b) m = m * a := by
      unfold hl
      rw [show max 0 m = m by omega, show max 0 (0 - m) = 0 by omega, Int.mul_comm]; simp
    simp [s__law_hauled, wD, h, binD_mul, q1, e]
  · have e : hl (a, b) m = -(m * b) := by
      unfold hl
      rw [show max 0 m = 0 by omega, show max 0 (0 - m) = -m by omega, Int.mul_neg]; simp [Int.mul_comm]
    simp [s__law_hauled, wD, h, binD_mul, q2, e]
end K91

end
section
set_option maxHeartbeats 4000000
/-! K91D: the law's own looks. -/
namespace K91
open PySem Mi Pl Er
theorem c__law_hauls (e : E) (he : ok e) (B D : PyData) (bs ds : List Int) (hB : O.its (.val B) = some (bs.map PyData.int)) (hD : O.its (.val D) = some (ds.map PyData.int)) (lb : bs.length = e.am.length) (ld : ds.length = e.am.length) (n : Nat) :
    cl gl Ps (n + 1) 30 [.val (eD e), .val B, .val D] = some (.val (.tuple [.tuple ((hauls 0 e.am bs ds).dropLast.map PyData.int), .int (tot e.am bs ds)]), [none, none, none]) := by
  have h1 := he.l1; have h2 := he.l2
  have hne : e.am ≠ [] := fun h => by rw [h] at h1; simp at h1
  have lh := hauls_len (l := 0) lb ld
  have hlast := hauls_last (l := 0) lb ld hne
  have hne2 : hauls 0 e.am bs ds ≠ [] := fun h => by rw [h] at lh; simp at lh; omega
  rw [r__law_hauls]
  simp [s__law_hauls, eD, zipE_3 (a := .val (.tuple (e.am.map PyData.int))) rfl hB hD, zip3_map]
  generalize hF : forGo _ _ _ _ = F
  obtain ⟨r1, rfl, l1, x1, x2, x3, rfl⟩ := for_foldC hF rfl (fun k s r => s.1.length = k ∧ ∃ x1 x2 x3, r = [some (.val (eD e)), some (.val B), some (.val D), some (.lst (s.1.map fun i => O.val (.int i))), some (.val (.int s.2)), x1, x2, x3]) hstep (s := ([], 0)) ⟨rfl, none, none, none, rfl⟩ (by
    rintro ⟨a, b, d⟩ hi k ⟨f, l⟩ r hk ⟨l1, x1, x2, x3, rfl⟩
    simp only [List.length_zip] at hk
    simp only at l1
    have zk : f.length < sizeLine := by unfold sizeLine; omega
    subst l1
    simp [zk, hstep])
  rw [hstep_hauls, List.nil_append]
  have hm : ∀ xs : List Int, (xs.map fun i => O.val (.int i)) = (xs.map PyData.int).map O.val := fun xs => by rw [List.map_map]; rfl
  have hg : L2.atI (List.map O.val (List.map PyData.int (hauls 0 e.am bs ds))) (-1) = some (.val (.int (tot e.am bs ds))) := by
    rw [atI_last (by simpa using hne2), List.getLast?_map, List.getLast?_map, hlast]
    simp
  simp [-List.map_map, -List.map_dropLast, hm, cutL_but, hg]

end K91

end
section
set_option maxHeartbeats 4000000
/-! Pl4: texts of data; small values. -/
namespace Pl
open PySem L2 Mi
theorem strOk_of (s : String) : PyData.strOk (Str.ofString s) = true := by
  unfold PyData.strOk
  rw [Str.ofString_eq_toList]
  simp only [List.all_toArray, List.all_map, List.all_eq_true, Function.comp_apply, decide_eq_true_eq]
  intro c _
  have h := c.valid
  show c.val.toNat < 1114112
  rcases h with h | h
  · have : c.val.toNat < 55296 := h
    omega
  · exact h.2
theorem textFrom_le : ∀ (ts : List Str) (k : Nat) (acc : Str), (textFrom k acc ts).length ≤ acc.length + piled ts
  | [], k, acc => by simp [textFrom]
  | t :: ts, k, acc => by
    have ih := textFrom_le ts (k + 1) (acc ++ (if k > 0 then ", " else "" : String) ++ t)
    have e : (acc ++ (if k > 0 then ", " else "" : String) ++ t).length ≤ acc.length + 2 + t.length := by
      rw [strLen_append, strLen_append]
      split
      · exact Nat.le_refl _
      · have : ((("" : String) : Str)).length = 0 := rfl
        omega
    show (textFrom (k + 1) (acc ++ (if k > 0 then ", " else "" : String) ++ t) ts).length ≤ _
    rw [piled_cons]
    omega
theorem listText_le (ts : List Str) : (listText ts).length ≤ piled ts + 2 := by
  unfold listText
  have := textFrom_le ts 0 "["
  rw [strLen_append]
  have e1 : ((("[" : String) : Str)).length = 1 := rfl
  have e2 : ((("]" : String) : Str)).length = 1 := rfl
  omega
theorem tupleText_le (ts : List Str) : (tupleText ts).length ≤ piled ts + 3 := by
  unfold tupleText
  rw [strLen_append, strLen_append]
  have e1 : ((("(" : String) : Str)).length = 1 := rfl
  have e3 : (((if ts.length == 1 then ",)" else ")" : String) : Str)).length ≤ 2 := by split <;> decide
  by_cases h : ts = []
  · subst h
    have : (Str.join ", " ([] : List Str)).length = 0 := rfl
    omega
  · have := join_length_add ts h
    omega
mutual
/-- at least how long it is as a text -/
def mz : PyData → Nat
  | .none => 4
  | .bool _ => 5
  | .int _ => 1921
  | .str x => (reprText x).length
  | .list ds => mzs ds + 3
  | .tuple ds => mzs ds + 3
  | .dict _ => 0
def mzs : List PyData → Nat
  | [] => 0
  | d :: ds => mz d + 2 + mzs ds
end
mutual
theorem shown_le : ∀ d : PyData, nd d = true → d.showable = true → d.shown.length ≤ mz d
  | .none, _, _ => by
    simp only [PyData.shown, mz]; decide
  | .bool b, _, _ => by
    cases b <;> (simp only [PyData.shown, mz]; decide)
  | .int i, _, h => by
    simp only [PyData.showable, decide_eq_true_eq] at h
    simp only [PyData.shown, mz]
    exact PyProof.Rows.int_text_len_1921 h
  | .str x, _, _ => by simp only [PyData.shown, mz]; exact Nat.le_refl _
  | .list ds, hn, h => by
    simp only [PyData.showable] at h
    simp only [nd_lst] at hn
    simp only [PyData.shown, mz]
    have := shownAll_le ds hn h
    have := listText_le (PyData.shownAll ds)
    omega
  | .tuple ds, hn, h => by
    simp only [PyData.showable] at h
    simp only [nd_tup] at hn
    simp only [PyData.shown, mz]
    have := shownAll_le ds hn h
    have := tupleText_le (PyData.shownAll ds)
    omega
  | .dict _, hn, _ => by simp at hn
theorem shownAll_le : ∀ ds : List PyData, nds ds = true → PyData.showableAll ds = true → piled (PyData.shownAll ds) ≤ mzs ds
  | [], _, _ => by simp [PyData.shownAll, mzs, piled]
  | d :: ds, hn, h => by
    simp only [PyData.showableAll, Bool.and_eq_true] at h
    simp only [nds_cons, Bool.and_eq_true] at hn
    simp only [PyData.shownAll, mzs]
    rw [piled_cons]
    have h1 := shown_le d hn.1 h.1
    have h2 := shownAll_le ds hn.2 h.2
    omega
end
theorem mzs_le {k : Nat} : ∀ {ds : List PyData}, (∀ d ∈ ds, mz d + 2 ≤ k) → mzs ds ≤ ds.length * k
  | [], _ => by simp [mzs]
  | d :: ds, h => by
    simp only [mzs, List.length_cons]
    have h1 := h d (by simp)
    have h2 := mzs_le (ds := ds) fun x hx => h x (by simp [hx])
    rw [Nat.add_mul]
    omega
theorem rep_ok {d : PyData} (h1 : nd d = true) (h2 : d.showable = true) (h3 : d.depth ≤ 64) (h4 : mz d ≤ sizeLine) : repOk d = true := by
  unfold repOk
  rw [h2, decide_eq_true h3, decide_eq_true (Nat.le_trans (shown_le d h1 h2) h4)]
  rfl
theorem showAll : ∀ {ds : List PyData}, (∀ d ∈ ds, d.showable = true) → PyData.showableAll ds = true
  | [], _ => by simp only [PyData.showableAll]
  | d :: ds, h => by
    simp only [PyData.showableAll, Bool.and_eq_true]
    exact ⟨h d (by simp), showAll fun x hx => h x (by simp [hx])⟩
theorem biE_repr {o : O} {d : PyData} (h : o.toD = some d) (h2 : repOk d = true) : biE .repr [o] = some (.val (.str d.shown)) := by
  show (match o.toD with
    | some d => if repOk d then some (O.val (.str d.shown)) else none
    | none => none) = _
  rw [h]
  simp only [h2, if_true]
/-- rows of answers -/
theorem rep_bools (bs : List Bool) (h : bs.length ≤ 100) : repOk (.list (bs.map PyData.bool)) = true := by
  refine rep_ok ?_ ?_ ?_ ?_
  · rw [nd_lst]
    exact nds_all fun d hd => by obtain ⟨b, _, rfl⟩ := List.mem_map.mp hd; simp
  · simp only [PyData.showable]
    exact showAll fun d hd => by obtain ⟨b, _, rfl⟩ := List.mem_map.mp hd; simp only [PyData.showable]
  · simp only [PyData.depth]
    have := depAll_le (k := 0) (ds := bs.map PyData.bool) |>.mpr fun d hd => by obtain ⟨b, _, rfl⟩ := List.mem_map.mp hd; simp [PyData.depth]
    omega
  · simp only [mz]
    have := mzs_le (k := 7) (ds := bs.map PyData.bool) fun d hd => by obtain ⟨b, _, rfl⟩ := List.mem_map.mp hd; simp [mz]
    rw [List.length_map] at this
    unfold sizeLine
    omega
theorem rep_ints (xs : List Int) (h : xs.length ≤ 100) (h2 : ∀ x ∈ xs, x.natAbs.log2 < 1920) : repOk (.list (xs.map PyData.int)) = true := by
  refine rep_ok ?_ ?_ ?_ ?_
  · rw [nd_lst]
    exact nds_ints xs
  · simp only [PyData.showable]
    exact showAll fun d hd => by obtain ⟨b, hb, rfl⟩ := List.mem_map.mp hd; simp only [PyData.showable]; exact decide_eq_true (h2 b hb)
  · simp only [PyData.depth]
    have := depAll_le (k := 0) (ds := xs.map PyData.int) |>.mpr fun d hd => by obtain ⟨b, _, rfl⟩ := List.mem_map.mp hd; simp [PyData.depth]
    omega
  · simp only [mz]
    have := mzs_le (k := 1923) (ds := xs.map PyData.int) fun d hd => by obtain ⟨b, _, rfl⟩ := List.mem_map.mp hd; simp [mz]
    rw [List.length_map] at this
    unfold sizeLine
    omega
theorem log_ok {i : Int} (h : i.natAbs < 2 ^ 200) : i.natAbs.log2 < 1920 := by
  by_cases h0 : i.natAbs = 0
  · rw [h0]; decide
  · have := (Nat.log2_lt h0).mpr h
    omega
@[simp] theorem rep2b {a b : Bool} : biE .repr [.lst [.val (.bool a), .val (.bool b)]] = some (.val (.str (PyData.shown (.list [.bool a, .bool b])))) :=
  biE_repr (by simp) (rep_bools [a, b] (by simp))
@[simp] theorem rep4b {a b c d : Bool} : biE .repr [.lst [.val (.bool a), .val (.bool b), .val (.bool c), .val (.bool d)]] = some (.val (.str (PyData.shown (.list [.bool a, .bool b, .bool c, .bool d])))) :=
  biE_repr (by simp) (rep_bools [a, b, c, d] (by simp))
theorem rep2i {a : Int} (h : a.natAbs.log2 < 1920) : biE .repr [.lst [.val (.int a), .val (.int a)]] = some (.val (.str (PyData.shown (.list [.int a, .int a])))) :=
  biE_repr (by simp) (rep_ints [a, a] (by simp) (by simp [h]))
@[simp] theorem mul2b {a b : Bool} : binD .mul (.list [.bool a, .bool b]) (.int 2) = some (.lst [.val (.bool a), .val (.bool b), .val (.bool a), .val (.bool b)]) :=
  binD_rep (xs := [.bool a, .bool b]) (k := 2) (by decide) (by simp [List.replicate])
/-! ### small values -/
/-- of ints and tuples, so deep -/
def tv : Nat → PyData → Prop
  | _, .int i => i.natAbs ≤ 2 ^ 39
  | k + 1, .tuple ds => ds.length ≤ 20 ∧ ∀ d ∈ ds, tv k d
  | _, _ => False
/-- small ones of all kinds -/
def sv : Nat → PyData → Prop
  | _, .none => True
  | _, .bool _ => True
  | _, .int i => i.natAbs ≤ 2 ^ 40
  | _, .str x => PyData.strOk x = true ∧ x.length ≤ 100
  | k + 1, .list ds => ds.length ≤ 40 ∧ ∀ d ∈ ds, sv k d
  | k + 1, .tuple ds => ds.length ≤ 40 ∧ ∀ d ∈ ds, sv k d
  | _, _ => False
theorem sv_vok : ∀ (k : Nat) (d : PyData), k ≤ 50 → sv k d → d.canLay0 = true ∧ d.depth ≤ k
  | _, .none, _, _ => ⟨rfl, by simp [PyData.depth]⟩
  | _, .bool _, _, _ => ⟨rfl, by simp [PyData.depth]⟩
  | _, .int _, _, _ => ⟨rfl, by simp [PyData.depth]⟩
  | k, .str x, _, h => ⟨by cases k <;> exact h.1, by simp [PyData.depth]⟩
  | 0, .list _, _, h => by simp [sv] at h
  | 0, .tuple _, _, h => by simp [sv] at h
  | 0, .dict _, _, h => by simp [sv] at h
  | k + 1, .dict _, _, h => by simp [sv] at h
  | k + 1, .list ds, hk, h => by
    simp only [sv] at h
    refine ⟨?_, ?_⟩
    · simp only [PyData.canLay0]
      exact canAll_of fun d hd => (sv_vok k d (by omega) (h.2 d hd)).1
    · simp only [PyData.depth]
      have := depAll_le.mpr fun d hd => (sv_vok k d (by omega) (h.2 d hd)).2
      omega
  | k + 1, .tuple ds, hk, h => by
    simp only [sv] at h
    refine ⟨?_, ?_⟩
    · simp only [PyData.canLay0]
      exact canAll_of fun d hd => (sv_vok k d (by omega) (h.2 d hd)).1
    · simp only [PyData.depth]
      have := depAll_le.mpr fun d hd => (sv_vok k d (by omega) (h.2 d hd)).2
      omega
theorem sv.vok {k : Nat} {d : PyData} (hk : k ≤ 50) (h : sv k d) : vok d := ⟨(sv_vok k d hk h).1, Nat.le_trans (sv_vok k d hk h).2 hk⟩
theorem sv_up : ∀ {k : Nat} {d : PyData}, sv k d → sv (k + 1) d
  | _, .none, _ => trivial
  | _, .bool _, _ => trivial
  | k, .int _, h => by cases k <;> exact h
  | k, .str _, h => by cases k <;> exact h
  | 0, .list _, h => by simp [sv] at h
  | 0, .tuple _, h => by simp [sv] at h
  | k, .dict _, h => by cases k <;> simp [sv] at h
  | k + 1, .list ds, h => by
    simp only [sv] at h ⊢
    exact ⟨h.1, fun d hd => sv_up (h.2 d hd)⟩
  | k + 1, .tuple ds, h => by
    simp only [sv] at h ⊢
    exact ⟨h.1, fun d hd => sv_up (h.2 d hd)⟩
theorem tv_sv : ∀ {k : Nat} {d : PyData}, tv k d → sv k d
  | k, .int _, h => by cases k <;> (simp only [tv] at h; simp only [sv]; omega)
  | k + 1, .tuple ds, h => by
    simp only [tv] at h
    simp only [sv]
    exact ⟨by omega, fun d hd => tv_sv (h.2 d hd)⟩
  | 0, .tuple _, h => by simp [tv] at h
  | k, .none, h => by cases k <;> simp [tv] at h
  | k, .bool _, h => by cases k <;> simp [tv] at h
  | k, .str _, h => by cases k <;> simp [tv] at h
  | k, .list _, h => by cases k <;> simp [tv] at h
  | k, .dict _, h => by cases k <;> simp [tv] at h
theorem str_len {i : Int} (h : i.natAbs ≤ 2 ^ 40) : (Str.ofString (toString i)).length ≤ 100 := by
  have e := PySem.int_text_length_le10 (a := i) (k := 20) (by decide) (by omega)
  have e2 : (Str.ofString (toString i)).length = (toString i).length := by
    rw [Str.ofString_eq_toList]
    simp only [Str.length, List.size_toArray, List.length_map]
    exact String.length_toList
  omega
theorem sv_mz : ∀ {k : Nat} {d : PyData}, sv k d → d.showable = true ∧ mz d ≤ 1921 * 50 ^ k
  | k, .none, _ => ⟨by simp only [PyData.showable], by have := Nat.one_le_pow k 50 (by decide); simp only [mz]; omega⟩
  | k, .bool _, _ => ⟨by simp only [PyData.showable], by have := Nat.one_le_pow k 50 (by decide); simp only [mz]; omega⟩
  | k, .int i, h => by
    have h : i.natAbs ≤ 2 ^ 40 := by cases k <;> exact h
    have := Nat.one_le_pow k 50 (by decide)
    refine ⟨?_, by simp only [mz]; omega⟩
    simp only [PyData.showable]
    exact decide_eq_true (log_ok (by omega))
  | k, .str x, h => by
    have h : PyData.strOk x = true ∧ x.length ≤ 100 := by cases k <;> exact h
    have := Nat.one_le_pow k 50 (by decide)
    have e := PySem.StrLaws.reprText_len x (fun c hc => by
      have h1 := h.1
      unfold PyData.strOk at h1
      rw [Array.all_eq_true'] at h1
      have := h1 c (by simpa using hc)
      simp at this
      omega)
    exact ⟨by simp only [PyData.showable], by simp only [mz]; omega⟩
  | 0, .list _, h => by simp [sv] at h
  | 0, .tuple _, h => by simp [sv] at h
  | 0, .dict _, h => by simp [sv] at h
  | k + 1, .dict _, h => by simp [sv] at h
  | k + 1, .list ds, h => by
    simp only [sv] at h
    have hp := Nat.one_le_pow k 50 (by decide)
    refine ⟨by simp only [PyData.showable]; exact showAll fun d hd => (sv_mz (h.2 d hd)).1, ?_⟩
    simp only [mz]
    have := mzs_le (k := 1921 * 50 ^ k + 2) (ds := ds) fun d hd => by have := (sv_mz (h.2 d hd)).2; omega
    have h3 := Nat.mul_le_mul_right (1921 * 50 ^ k + 2) h.1
    rw [Nat.pow_succ]
    omega
  | k + 1, .tuple ds, h => by
    simp only [sv] at h
    have hp := Nat.one_le_pow k 50 (by decide)
    refine ⟨by simp only [PyData.showable]; exact showAll fun d hd => (sv_mz (h.2 d hd)).1, ?_⟩
    simp only [mz]
    have := mzs_le (k := 1921 * 50 ^ k + 2) (ds := ds) fun d hd => by have := (sv_mz (h.2 d hd)).2; omega
    have h3 := Nat.mul_le_mul_right (1921 * 50 ^ k + 2) h.1
    rw [Nat.pow_succ]
    omega
theorem rep_sv {d : PyData} (h : sv 2 d) : repOk d = true := by
  obtain ⟨h1, h2⟩ := sv_mz h
  have hv := h.vok (by decide)
  exact rep_ok hv.nd h1 (by have := hv.dep; omega) (by unfold sizeLine; omega)
end Pl

end
section
set_option maxHeartbeats 4000000
/-! ErW: no plan costs less than any bound; sizes. -/
namespace Er
open PySem L2 Mi Pl
theorem hl_le {w : Int × Int} {p q h : Int} (h1 : 0 - w.2 ≤ q - p) (h2 : q - p ≤ w.1) : (q - p) * h ≤ hl w h := by
  unfold hl
  by_cases hh : 0 ≤ h
  · rw [show max 0 h = h by omega, show max 0 (0 - h) = 0 by omega]
    have := Int.mul_le_mul_of_nonneg_right h2 hh
    simpa using this
  · rw [show max 0 h = 0 by omega, show max 0 (0 - h) = 0 - h by omega]
    have h3 : 0 - (q - p) ≤ w.2 := by omega
    have := Int.mul_le_mul_of_nonneg_right h3 (show 0 ≤ 0 - h by omega)
    have e : (0 - (q - p)) * (0 - h) = (q - p) * h := by
      rw [Int.zero_sub, Int.zero_sub, Int.neg_mul_neg]
    rw [e] at this
    simpa using this
theorem tc_buy {t : Option Int} {p b : Int} (ht : (match t with | some x => decide (p ≤ x) | none => true) = true) (h : 0 ≤ b ∧ (t.isSome = true ∨ b = 0)) : p * b ≤ tc t b := by
  unfold tc
  by_cases hb : 0 < b
  · rw [if_pos hb]
    obtain ⟨x, rfl⟩ : ∃ x, t = some x := Option.isSome_iff_exists.mp (h.2.resolve_right (by omega))
    simp only [decide_eq_true_eq] at ht
    exact Int.mul_le_mul_of_nonneg_right ht h.1
  · have : b = 0 := by omega
    subst this
    simp
theorem tc_drop {t : Option Int} {p d : Int} (ht : (match t with | some x => decide (0 - x ≤ p) | none => true) = true) (h : 0 ≤ d ∧ (t.isSome = true ∨ d = 0)) : -(p * d) ≤ tc t d := by
  unfold tc
  by_cases hb : 0 < d
  · rw [if_pos hb]
    obtain ⟨x, rfl⟩ : ∃ x, t = some x := Option.isSome_iff_exists.mp (h.2.resolve_right (by omega))
    simp only [decide_eq_true_eq] at ht
    have := Int.mul_le_mul_of_nonneg_right (show -p ≤ x by omega) h.1
    rw [Int.neg_mul] at this
    exact this
  · have : d = 0 := by omega
    subst this
    simp
theorem weak : ∀ {am bs ds hs ps : List Int} {tp : List (Option Int × Option Int)} {wy : List (Int × Int)} {l : Int}, am ≠ [] → bs.length = am.length → ds.length = am.length → tp.length = am.length → ps.length = am.length → wy.length + 1 = am.length →
    hauls l am bs ds = hs ++ [0] → kept Prod.fst tp bs = true → kept Prod.snd tp ds = true → gapsOk wy ps = true → (ps.zip tp).all (fun q => tipOk q.2 q.1) = true →
    -((ps.zip am).map fun p => p.1 * p.2).sum ≤ ((wy.zip hs).map fun p => hl p.1 p.2).sum + ((tp.zip (bs.zip ds)).map fun p => tc p.1.1 p.2.1 + tc p.1.2 p.2.2).sum + ps.headD 0 * l
  | a :: am, b :: bs, d :: ds, hs, p :: ps, t :: tp, wy, l, _, h1, h2, h3, h4, h5, hh, kb, kd, g, tk => by
    simp only [hauls] at hh
    have kb' : (0 ≤ b ∧ (t.1.isSome = true ∨ b = 0)) ∧ kept Prod.fst tp bs = true := by
      simp only [kept, List.zip_cons_cons, List.all_cons, Bool.and_eq_true, decide_eq_true_eq, Bool.or_eq_true] at kb
      exact kb
    have kd' : (0 ≤ d ∧ (t.2.isSome = true ∨ d = 0)) ∧ kept Prod.snd tp ds = true := by
      simp only [kept, List.zip_cons_cons, List.all_cons, Bool.and_eq_true, decide_eq_true_eq, Bool.or_eq_true] at kd
      exact kd
    simp only [List.zip_cons_cons, List.all_cons, Bool.and_eq_true, tipOk] at tk
    have e1 := tc_buy (p := p) tk.1.1 kb'.1
    have e2 := tc_drop (p := p) tk.1.2 kd'.1
    simp only [List.zip_cons_cons, List.map_cons, List.sum_cons, List.headD_cons]
    have ea : p * a = p * (l + a + b - d) - p * l - p * b + p * d := by
      rw [Int.mul_sub, Int.mul_add, Int.mul_add]
      omega
    match am, bs, ds, ps, tp, wy, hs, h1, h2, h3, h4, h5 with
    | [], [], [], [], [], [], hs, _, _, _, _, _ =>
      simp only [hauls] at hh
      have hz : l + a + b - d = 0 ∧ hs = [] := by
        match hs, hh with
        | [], hh => simp at hh; exact ⟨hh, rfl⟩
        | [x], hh => simp at hh
        | x :: y :: hs, hh => simp at hh
      rw [hz.1] at ea
      rw [hz.2]
      simp only [List.zip_nil_left, List.zip_nil_right, List.map_nil, List.sum_nil, Int.mul_zero] at *
      omega
    | a2 :: am, b2 :: bs, d2 :: ds, q :: ps, t2 :: tp, w :: wy, hs, h1, h2, h3, h4, h5 =>
      match hs, hh with
      | x :: hs, hh =>
        rw [List.cons_append, List.cons.injEq] at hh
        obtain ⟨rfl, hh⟩ := hh
        simp only [gapsOk, Bool.and_eq_true, decide_eq_true_eq] at g
        have ih := weak (am := a2 :: am) (bs := b2 :: bs) (ds := d2 :: ds) (hs := hs) (ps := q :: ps) (tp := t2 :: tp) (wy := wy) (l := l + a + b - d) (by simp) (by simpa using h1) (by simpa using h2) (by simpa using h3) (by simpa using h4) (by simpa using h5) hh kb'.2 kd'.2 g.2 tk.2
        have eg := hl_le (w := w) (p := p) (q := q) (h := l + a + b - d) g.1.1 g.1.2
        rw [Int.sub_mul] at eg
        simp only [List.zip_cons_cons, List.map_cons, List.sum_cons, List.headD_cons] at ih ⊢
        omega
      | [], hh =>
        simp only [hauls, List.nil_append, List.cons.injEq] at hh
        exact absurd hh.2 (by simp)
theorem weak_dual {e : E} (he : ok e) {hs bs ds ps : List Int} (hp : isPlanR e hs bs ds = true) (hq : arePricesR e ps = true) : boundR e ps ≤ costR e hs bs ds := by
  have h1 := he.l1
  simp only [isPlanR, Bool.and_eq_true, decide_eq_true_eq] at hp
  obtain ⟨⟨⟨⟨⟨p1, p2⟩, p3⟩, p4⟩, p5⟩, p6⟩ := hp
  simp only [arePricesR, Bool.and_eq_true, decide_eq_true_eq] at hq
  obtain ⟨⟨q1, q2⟩, q3⟩ := hq
  have := weak (l := 0) (fun h => by rw [h] at h1; simp at h1) p2 p3 he.lt q1 he.lw p6 p4 p5 q2 q3
  unfold boundR costR
  rw [Int.mul_zero, Int.add_zero] at this
  omega
/-! ### sizes -/
theorem mul_bd {a b : Int} {A B : Nat} (h1 : a.natAbs ≤ A) (h2 : b.natAbs ≤ B) : (a * b).natAbs ≤ A * B := by
  rw [Int.natAbs_mul]
  exact Nat.mul_le_mul h1 h2
theorem sum_map_bd {α : Type} {B L : Nat} {xs : List α} {f : α → Int} (hl : xs.length ≤ L) (h : ∀ x ∈ xs, (f x).natAbs ≤ B) : (xs.map f).sum.natAbs ≤ L * B := by
  have := sum_bd (B := B) (xs := xs.map f) fun y hy => by
    obtain ⟨x, hx, rfl⟩ := List.mem_map.mp hy
    exact h x hx
  rw [List.length_map] at this
  exact Nat.le_trans this (Nat.mul_le_mul_right B hl)
theorem cost_bd {e : E} (he : ok e) {hs bs ds : List Int} (h1 : ∀ x ∈ hs, x.natAbs ≤ 2 ^ 40) (h2 : ∀ x ∈ bs, x.natAbs ≤ 2 ^ 40) (h3 : ∀ x ∈ ds, x.natAbs ≤ 2 ^ 40) : (costR e hs bs ds).natAbs.log2 < 1920 := by
  have l2 := he.l2; have lw := he.lw; have lt := he.lt
  refine log_ok ?_
  have a1 := sum_map_bd (L := 10) (B := 2 ^ 60) (xs := e.wy.zip hs) (f := fun p => hl p.1 p.2) (by rw [List.length_zip]; omega) (by
    rintro ⟨w, m⟩ hx
    have q1 := he.wy w (List.of_mem_zip hx).1
    have q2 := h1 m (List.of_mem_zip hx).2
    have r1 := mul_bd (a := w.1) (b := max 0 m) (A := 99) (B := 2 ^ 40) (by omega) (by omega)
    have r2 := mul_bd (a := w.2) (b := max 0 (0 - m)) (A := 99) (B := 2 ^ 40) (by omega) (by omega)
    simp only [hl]
    omega)
  have tcb : ∀ (t : Option Int) (m : Int), oOk t → m.natAbs ≤ 2 ^ 40 → (tc t m).natAbs ≤ 2 ^ 55 := by
    intro t m ht hm
    unfold tc
    split
    · cases t with
      | none => simp
      | some x =>
        have := ht x rfl
        have := mul_bd (a := x) (b := m) (A := 999) (B := 2 ^ 40) (by omega) hm
        simp only [Option.getD_some]
        omega
    · simp
  have a2 := sum_map_bd (L := 10) (B := 2 ^ 60) (xs := e.tp.zip (bs.zip ds)) (f := fun p => tc p.1.1 p.2.1 + tc p.1.2 p.2.2) (by rw [List.length_zip]; omega) (by
    rintro ⟨t, m, l⟩ hx
    have q1 := he.tp t (List.of_mem_zip hx).1
    have q2 := h2 m (List.of_mem_zip (List.of_mem_zip hx).2).1
    have q3 := h3 l (List.of_mem_zip (List.of_mem_zip hx).2).2
    have r1 := tcb t.1 m q1.1 q2
    have r2 := tcb t.2 l q1.2 q3
    simp only
    omega)
  unfold costR
  have : (2 : Nat) ^ 60 * 20 < 2 ^ 200 := by decide
  omega
theorem bound_bd {e : E} (he : ok e) {ps : List Int} (h1 : ∀ x ∈ ps, x.natAbs ≤ 2 ^ 40) : (boundR e ps).natAbs.log2 < 1920 := by
  have l2 := he.l2
  refine log_ok ?_
  have a1 := sum_map_bd (L := 10) (B := 2 ^ 60) (xs := ps.zip e.am) (f := fun p => p.1 * p.2) (by rw [List.length_zip]; omega) (by
    rintro ⟨p, a⟩ hx
    have q1 := h1 p (List.of_mem_zip hx).1
    have q2 := he.am a (List.of_mem_zip hx).2
    have r1 := mul_bd (a := p) (b := a) (A := 2 ^ 40) (B := 99) q1 (by omega)
    simp only
    omega)
  unfold boundR
  have : (2 : Nat) ^ 60 * 20 < 2 ^ 200 := by decide
  omega
theorem sv_row {k : Nat} {xs : List Int} (h : sv (k + 1) (.tuple (xs.map PyData.int))) : ∀ x ∈ xs, x.natAbs ≤ 2 ^ 40 := fun x hx => by
  simp only [sv] at h
  have := h.2 (.int x) (List.mem_map.mpr ⟨x, hx, rfl⟩)
  cases k <;> exact this
theorem sv_plD {k : Nat} {hs bs ds : List Int} (h : sv (k + 2) (plD hs bs ds)) : (∀ x ∈ hs, x.natAbs ≤ 2 ^ 40) ∧ (∀ x ∈ bs, x.natAbs ≤ 2 ^ 40) ∧ ∀ x ∈ ds, x.natAbs ≤ 2 ^ 40 := by
  unfold plD at h
  simp only [sv] at h
  exact ⟨sv_row (h.2 _ (by simp)), sv_row (h.2 _ (by simp)), sv_row (h.2 _ (by simp))⟩
theorem eD_rep {e : E} (he : ok e) : repOk (eD e) = true := by
  have l2 := he.l2; have lw := he.lw; have lt := he.lt
  have io : ∀ t : Option Int, oOk t → (od t).showable = true ∧ mz (od t) ≤ 1921 ∧ (od t).depth = 0 ∧ nd (od t) = true := fun t ht => by
    cases t with
    | none => simp [od, PyData.showable, mz, PyData.depth]
    | some i =>
      have := ht i rfl
      simp only [od, PyData.showable, mz, PyData.depth]
      exact ⟨decide_eq_true (log_ok (by omega)), Nat.le_refl _, trivial, by simp⟩
  have wi : ∀ i : Int, 0 ≤ i ∧ i ≤ 99 → i.natAbs.log2 < 1920 := fun i h => log_ok (by omega)
  refine rep_ok ?_ ?_ ?_ ?_
  · simp only [eD, amD, wyD, tpD, nd_tup, nds_cons, nds_nil, nd_str, nds_ints, Bool.and_true, Bool.true_and, Bool.and_eq_true]
    exact ⟨nds_all fun d hd => by obtain ⟨w, _, rfl⟩ := List.mem_map.mp hd; simp [wD], nds_all fun d hd => by obtain ⟨w, _, rfl⟩ := List.mem_map.mp hd; simp [tD]⟩
  · simp only [eD, amD, wyD, tpD, PyData.showable, PyData.showableAll, Bool.and_true, Bool.true_and, Bool.and_eq_true]
    refine ⟨showAll fun d hd => ?_, showAll fun d hd => ?_, showAll fun d hd => ?_⟩
    · obtain ⟨i, hi, rfl⟩ := List.mem_map.mp hd
      have := he.am i hi
      simp only [PyData.showable]
      exact decide_eq_true (log_ok (by omega))
    · obtain ⟨w, hw, rfl⟩ := List.mem_map.mp hd
      have := he.wy w hw
      simp only [wD, PyData.showable, PyData.showableAll, Bool.and_true, Bool.and_eq_true]
      exact ⟨decide_eq_true (wi _ this.1), decide_eq_true (wi _ this.2)⟩
    · obtain ⟨t, ht, rfl⟩ := List.mem_map.mp hd
      have := he.tp t ht
      simp only [tD, PyData.showable, PyData.showableAll, Bool.and_true, Bool.and_eq_true]
      exact ⟨(io _ this.1).1, (io _ this.2).1⟩
  · simp only [eD, amD, wyD, tpD, PyData.depth, PyData.depthAll]
    have a1 := (depAll_le (k := 0) (ds := e.am.map PyData.int)).mpr fun d hd => by obtain ⟨i, hi, rfl⟩ := List.mem_map.mp hd; simp [PyData.depth]
    have a2 := (depAll_le (k := 1) (ds := e.wy.map wD)).mpr fun d hd => by obtain ⟨i, hi, rfl⟩ := List.mem_map.mp hd; simp [wD, PyData.depth, PyData.depthAll]
    have a3 := (depAll_le (k := 1) (ds := e.tp.map tD)).mpr fun d hd => by
      obtain ⟨t, ht, rfl⟩ := List.mem_map.mp hd
      have := he.tp t ht
      simp [tD, PyData.depth, PyData.depthAll, (io _ this.1).2.2.1, (io _ this.2).2.2.1]
    omega
  · simp only [eD, amD, wyD, tpD, mz, mzs]
    have e5 : (reprText (Str.ofString "earth")).length = 7 := by decide +kernel
    have a1 := mzs_le (k := 1923) (ds := e.am.map PyData.int) fun d hd => by obtain ⟨i, hi, rfl⟩ := List.mem_map.mp hd; simp [mz]
    have a2 := mzs_le (k := 5000) (ds := e.wy.map wD) fun d hd => by obtain ⟨i, hi, rfl⟩ := List.mem_map.mp hd; simp [wD, mz, mzs]
    have a3 := mzs_le (k := 5000) (ds := e.tp.map tD) fun d hd => by
      obtain ⟨t, ht, rfl⟩ := List.mem_map.mp hd
      have := he.tp t ht
      have q1 := (io _ this.1).2.1
      have q2 := (io _ this.2).2.1
      simp only [tD, mz, mzs]
      omega
    simp only [List.length_map] at a1 a2 a3
    have b1 := Nat.mul_le_mul_right 1923 l2
    have b2 := Nat.mul_le_mul_right 5000 (show e.wy.length ≤ 10 by omega)
    have b3 := Nat.mul_le_mul_right 5000 (show e.tp.length ≤ 10 by omega)
    rw [e5]
    unfold sizeLine
    omega
end Er

end
section
set_option maxHeartbeats 4000000
/-! ErT: tables of what goes where. -/
namespace Er
open PySem L2 Mi Pl
abbrev Ent := Nat × Nat × Int
def emit (i j : Nat) (m : Int) (r : List Ent) : List Ent := if 0 < m then (i, j, m) :: r else r
/-- one row, each column once -/
def rowT (i : Nat) : Int → List Int → Nat → List Ent × List Int
  | _, [], _ => ([], [])
  | g, t :: ts, j => (emit i j (min g t) (rowT i (g - min g t) ts (j + 1)).1, (t - min g t) :: (rowT i (g - min g t) ts (j + 1)).2)
def grd : List Int → List Int → Nat → Nat → List Ent
  | [], _, _, _ => []
  | g :: gs, ts, i, j => (rowT i g ts j).1 ++ grd gs (rowT i g ts j).2 (i + 1) j
/-- along both -/
def nw : List Int → List Int → Nat → Nat → List Ent
  | [], _, _, _ => []
  | _ :: _, [], _, _ => []
  | g :: gs, t :: ts, i, j => emit i j (min g t) (if g - min g t = 0 then nw gs ((t - min g t) :: ts) (i + 1) j else nw ((g - min g t) :: gs) ts i (j + 1))
termination_by gs ts => gs.length + ts.length
theorem nw_nil {ts : List Int} {i j : Nat} : nw [] ts i j = [] := by rw [nw]
theorem nw_nil2 {gs : List Int} {i j : Nat} : nw gs [] i j = [] := by cases gs <;> rw [nw]
theorem nw_le {g t : Int} {gs ts : List Int} {i j : Nat} (h : g ≤ t) : nw (g :: gs) (t :: ts) i j = emit i j g (nw gs ((t - g) :: ts) (i + 1) j) := by
  rw [nw, show min g t = g by omega, if_pos (by omega)]
theorem nw_gt {g t : Int} {gs ts : List Int} {i j : Nat} (h : t < g) : nw (g :: gs) (t :: ts) i j = emit i j t (nw ((g - t) :: gs) ts i (j + 1)) := by
  rw [nw, show min g t = t by omega, if_neg (by omega)]
def nn (xs : List Int) : Prop := ∀ x ∈ xs, 0 ≤ x
theorem nn_cons {x : Int} {xs : List Int} : nn (x :: xs) ↔ 0 ≤ x ∧ nn xs := by simp [nn]
theorem nw_ind {P : List Int → List Int → Nat → Nat → Prop} (h1 : ∀ ts i j, nn ts → P [] ts i j) (h2 : ∀ gs i j, nn gs → P gs [] i j)
    (h3 : ∀ g gs t ts i j, 0 ≤ g → g ≤ t → nn gs → nn ts → P gs ((t - g) :: ts) (i + 1) j → P (g :: gs) (t :: ts) i j)
    (h4 : ∀ g gs t ts i j, 0 ≤ t → t < g → nn gs → nn ts → P ((g - t) :: gs) ts i (j + 1) → P (g :: gs) (t :: ts) i j) : ∀ (n : Nat) (gs ts : List Int) (i j : Nat), gs.length + ts.length ≤ n → nn gs → nn ts → P gs ts i j := by
  intro n
  induction n with
  | zero =>
    intro gs ts i j hn hg ht
    cases gs with
    | nil => exact h1 ts i j ht
    | cons _ _ => simp at hn
  | succ n ih =>
    intro gs ts i j hn hg ht
    cases gs with
    | nil => exact h1 ts i j ht
    | cons g gs =>
      cases ts with
      | nil => exact h2 _ i j hg
      | cons t ts =>
        rw [nn_cons] at hg ht
        simp only [List.length_cons] at hn
        by_cases hc : g ≤ t
        · exact h3 g gs t ts i j hg.1 hc hg.2 ht.2 (ih _ _ _ _ (by simp only [List.length_cons]; omega) hg.2 (nn_cons.mpr ⟨by omega, ht.2⟩))
        · exact h4 g gs t ts i j ht.1 (by omega) hg.2 ht.2 (ih _ _ _ _ (by simp only [List.length_cons]; omega) (nn_cons.mpr ⟨by omega, hg.2⟩) ht.2)
theorem emit_z {i j : Nat} {r : List Ent} : emit i j 0 r = r := by simp [emit]
theorem emit_app {i j : Nat} {m : Int} {r s : List Ent} : emit i j m r ++ s = emit i j m (r ++ s) := by unfold emit; split <;> simp
theorem row_zero {i : Nat} : ∀ {ts : List Int} {j : Nat}, nn ts → rowT i 0 ts j = ([], ts)
  | [], _, _ => rfl
  | t :: ts, j, h => by
    rw [nn_cons] at h
    simp only [rowT, show min 0 t = 0 by omega, Int.sub_zero, row_zero h.2, emit_z]
theorem row_nn {i : Nat} : ∀ {ts : List Int} {g : Int} {j : Nat}, 0 ≤ g → nn ts → nn (rowT i g ts j).2
  | [], _, _, _, _ => by simp [rowT, nn]
  | t :: ts, g, j, hg, h => by
    rw [nn_cons] at h
    simp only [rowT]
    exact nn_cons.mpr ⟨by omega, row_nn (by omega) h.2⟩
theorem grd_zero : ∀ {gs : List Int} {ts : List Int} {i j : Nat}, nn gs → nn ts → grd gs (0 :: ts) i j = grd gs ts i (j + 1)
  | [], _, _, _, _, _ => rfl
  | g :: gs, ts, i, j, h, ht => by
    rw [nn_cons] at h
    simp only [grd, rowT, show min g 0 = 0 by omega, Int.sub_zero, emit_z]
    rw [grd_zero h.2 (row_nn h.1 ht)]
theorem grd_nil : ∀ {gs : List Int} {i j : Nat}, grd gs [] i j = []
  | [], _, _ => rfl
  | g :: gs, i, j => by simp [grd, rowT, grd_nil]
theorem nw_grd {gs ts : List Int} {i j : Nat} (hg : nn gs) (ht : nn ts) : nw gs ts i j = grd gs ts i j := by
  refine nw_ind (P := fun gs ts i j => nw gs ts i j = grd gs ts i j) (fun ts i j _ => by rw [nw_nil]; rfl) (fun gs i j _ => by rw [nw_nil2, grd_nil]) ?_ ?_ _ gs ts i j (Nat.le_refl _) hg ht
  · intro g gs t ts i j h0 hc hg ht ih
    rw [nw_le hc, ih]
    simp only [grd, rowT, show min g t = g by omega, Int.sub_self, row_zero ht, emit_app, List.nil_append]
  · intro g gs t ts i j h0 hc hg ht ih
    rw [nw_gt hc, ih]
    simp only [grd, rowT, show min g t = t by omega, Int.sub_self, emit_app]
    rw [grd_zero hg (row_nn (by omega) ht)]
/-! ### sums over a table -/
def sm (f : Ent → Bool) (T : List Ent) : Int := (T.map fun e => if f e then e.2.2 else 0).sum
theorem sm_nil {f : Ent → Bool} : sm f [] = 0 := rfl
theorem sm_cons {f : Ent → Bool} {e : Ent} {T : List Ent} : sm f (e :: T) = (if f e then e.2.2 else 0) + sm f T := by simp [sm]
theorem sm_emit {f : Ent → Bool} {i j : Nat} {m : Int} (h : 0 ≤ m) {T : List Ent} : sm f (emit i j m T) = (if f (i, j, m) then m else 0) + sm f T := by
  unfold emit
  split
  · rw [sm_cons]
  · rw [show m = 0 by omega]; simp
abbrev pK (k : Nat) (e : Ent) : Bool := decide (e.1 ≤ k)
abbrev qK (k : Nat) (e : Ent) : Bool := decide (e.2.1 ≤ k)
abbrev fK (k : Nat) (e : Ent) : Bool := decide (e.1 ≤ k) && decide (k < e.2.1)
abbrev bK (k : Nat) (e : Ent) : Bool := decide (e.2.1 ≤ k) && decide (k < e.1)
theorem fb_pq (k : Nat) : ∀ T : List Ent, sm (fK k) T - sm (bK k) T = sm (pK k) T - sm (qK k) T
  | [] => by simp [sm]
  | e :: T => by
    have ih := fb_pq k T
    rw [sm_cons, sm_cons, sm_cons, sm_cons]
    by_cases h1 : e.1 ≤ k <;> by_cases h2 : e.2.1 ≤ k
    · simp [fK, bK, pK, qK, h1, h2, show ¬ k < e.2.1 by omega, show ¬ k < e.1 by omega]; omega
    · simp [fK, bK, pK, qK, h1, h2, show k < e.2.1 by omega, show ¬ k < e.1 by omega]; omega
    · simp [fK, bK, pK, qK, h1, h2, show ¬ k < e.2.1 by omega, show k < e.1 by omega]; omega
    · simp [fK, bK, pK, qK, h1, h2, show k < e.2.1 by omega, show k < e.1 by omega]; omega
theorem sum_take_zero : ∀ {xs : List Int} {n : Nat}, nn xs → xs.sum = 0 → (xs.take n).sum = 0
  | [], n, _, _ => by simp
  | x :: xs, n, h, hs => by
    rw [nn_cons] at h
    rw [List.sum_cons] at hs
    have : ∀ {ys : List Int}, nn ys → 0 ≤ ys.sum := fun {ys} => by
      induction ys with
      | nil => intro _; simp
      | cons y ys ih => intro h; rw [nn_cons] at h; have := ih h.2; rw [List.sum_cons]; omega
    have h2 := this h.2
    cases n with
    | zero => simp
    | succ n =>
      rw [List.take_succ_cons, List.sum_cons, sum_take_zero h.2 (by omega)]
      omega
theorem nw_P (k : Nat) {gs ts : List Int} {i j : Nat} (hg : nn gs) (ht : nn ts) : gs.sum = ts.sum → sm (pK k) (nw gs ts i j) = (gs.take (k + 1 - i)).sum := by
  refine nw_ind (P := fun gs ts i j => gs.sum = ts.sum → sm (pK k) (nw gs ts i j) = (gs.take (k + 1 - i)).sum) ?_ ?_ ?_ ?_ _ gs ts i j (Nat.le_refl _) hg ht
  · intro ts i j _ _
    rw [nw_nil]; simp [sm]
  · intro gs i j h hs
    rw [nw_nil2, sum_take_zero h (by simpa using hs)]; rfl
  · intro g gs t ts i j h0 hc _ _ ih hs
    simp only [List.sum_cons] at ih hs
    rw [nw_le hc, sm_emit h0, ih (by omega)]
    by_cases hk : i ≤ k
    · rw [show k + 1 - i = (k + 1 - (i + 1)) + 1 by omega, List.take_succ_cons, List.sum_cons]
      simp [pK, hk]
    · rw [show k + 1 - i = 0 by omega, show k + 1 - (i + 1) = 0 by omega]
      simp [pK, hk]
  · intro g gs t ts i j h0 hc _ _ ih hs
    simp only [List.sum_cons] at ih hs
    rw [nw_gt hc, sm_emit h0, ih (by omega)]
    by_cases hk : i ≤ k
    · rw [show k + 1 - i = (k - i) + 1 by omega, List.take_succ_cons, List.sum_cons, List.take_succ_cons, List.sum_cons]
      simp [pK, hk]
      omega
    · rw [show k + 1 - i = 0 by omega]
      simp [pK, hk]
theorem nw_Q (k : Nat) {gs ts : List Int} {i j : Nat} (hg : nn gs) (ht : nn ts) : gs.sum = ts.sum → sm (qK k) (nw gs ts i j) = (ts.take (k + 1 - j)).sum := by
  refine nw_ind (P := fun gs ts i j => gs.sum = ts.sum → sm (qK k) (nw gs ts i j) = (ts.take (k + 1 - j)).sum) ?_ ?_ ?_ ?_ _ gs ts i j (Nat.le_refl _) hg ht
  · intro ts i j h hs
    rw [nw_nil, sum_take_zero h (by simpa using hs.symm)]; rfl
  · intro gs i j _ _
    rw [nw_nil2]; simp [sm]
  · intro g gs t ts i j h0 hc _ _ ih hs
    simp only [List.sum_cons] at ih hs
    rw [nw_le hc, sm_emit h0, ih (by omega)]
    by_cases hk : j ≤ k
    · rw [show k + 1 - j = (k - j) + 1 by omega, List.take_succ_cons, List.sum_cons, List.take_succ_cons, List.sum_cons]
      simp [qK, hk]
      omega
    · rw [show k + 1 - j = 0 by omega]
      simp [qK, hk]
  · intro g gs t ts i j h0 hc _ _ ih hs
    simp only [List.sum_cons] at ih hs
    rw [nw_gt hc, sm_emit h0, ih (by omega)]
    by_cases hk : j ≤ k
    · rw [show k + 1 - j = (k + 1 - (j + 1)) + 1 by omega, List.take_succ_cons, List.sum_cons]
      simp [qK, hk]
    · rw [show k + 1 - j = 0 by omega, show k + 1 - (j + 1) = 0 by omega]
      simp [qK, hk]
abbrev mono (x y : Ent) : Prop := x.1 ≤ y.1 ∧ x.2.1 ≤ y.2.1 ∧ (x.1 < y.1 ∨ x.2.1 < y.2.1)
structure NW (gs ts : List Int) (i j : Nat) (M : Int) (T : List Ent) : Prop where
  mono : T.Pairwise mono
  i1 : ∀ e ∈ T, i ≤ e.1 ∧ e.1 < i + gs.length
  j1 : ∀ e ∈ T, j ≤ e.2.1 ∧ e.2.1 < j + ts.length
  pos : ∀ e ∈ T, 0 < e.2.2 ∧ e.2.2 ≤ M
  len : T.length ≤ gs.length + ts.length
theorem emit_mem {i j : Nat} {m : Int} {T : List Ent} {e : Ent} (h : e ∈ emit i j m T) : (e = (i, j, m) ∧ 0 < m) ∨ e ∈ T := by
  unfold emit at h
  split at h
  · rcases List.mem_cons.mp h with h | h
    · exact .inl ⟨h, by assumption⟩
    · exact .inr h
  · exact .inr h
theorem emit_len {i j : Nat} {m : Int} {T : List Ent} : (emit i j m T).length ≤ T.length + 1 := by unfold emit; split <;> simp
theorem emit_pw {i j : Nat} {m : Int} {T : List Ent} (h : T.Pairwise mono) (h2 : ∀ e ∈ T, mono (i, j, m) e) : (emit i j m T).Pairwise mono := by
  unfold emit
  split
  · exact List.pairwise_cons.mpr ⟨h2, h⟩
  · exact h
theorem nw_NW {M : Int} {gs ts : List Int} {i j : Nat} (hg : nn gs) (ht : nn ts) : (∀ t ∈ ts, t ≤ M) → NW gs ts i j M (nw gs ts i j) := by
  refine nw_ind (P := fun gs ts i j => (∀ t ∈ ts, t ≤ M) → NW gs ts i j M (nw gs ts i j)) ?_ ?_ ?_ ?_ _ gs ts i j (Nat.le_refl _) hg ht
  · intro ts i j _ _
    rw [nw_nil]
    exact ⟨.nil, by simp, by simp, by simp, by simp⟩
  · intro gs i j _ _
    rw [nw_nil2]
    exact ⟨.nil, by simp, by simp, by simp, by simp⟩
  · intro g gs t ts i j h0 hc _ _ ih hM
    have hMt := hM t (by simp)
    have q := ih fun x hx => by
      rcases List.mem_cons.mp hx with rfl | hx
      · omega
      · exact hM x (by simp [hx])
    rw [nw_le hc]
    refine ⟨emit_pw q.mono fun e he => ?_, fun e he => ?_, fun e he => ?_, fun e he => ?_, ?_⟩
    · have := q.i1 e he; have := q.j1 e he
      simp only [mono]; omega
    · rcases emit_mem he with ⟨rfl, _⟩ | he
      · simp
      · have := q.i1 e he; simp only [List.length_cons]; omega
    · rcases emit_mem he with ⟨rfl, _⟩ | he
      · simp
      · have := q.j1 e he; simp only [List.length_cons] at this ⊢; omega
    · rcases emit_mem he with ⟨rfl, h⟩ | he
      · simp only; omega
      · exact q.pos e he
    · have := q.len
      have := emit_len (i := i) (j := j) (m := g) (T := nw gs ((t - g) :: ts) (i + 1) j)
      simp only [List.length_cons] at *
      omega
  · intro g gs t ts i j h0 hc _ _ ih hM
    have hMt := hM t (by simp)
    have q := ih fun x hx => hM x (by simp [hx])
    rw [nw_gt hc]
    refine ⟨emit_pw q.mono fun e he => ?_, fun e he => ?_, fun e he => ?_, fun e he => ?_, ?_⟩
    · have := q.i1 e he; have := q.j1 e he
      simp only [mono]; omega
    · rcases emit_mem he with ⟨rfl, _⟩ | he
      · simp
      · have := q.i1 e he; simp only [List.length_cons] at this ⊢; omega
    · rcases emit_mem he with ⟨rfl, _⟩ | he
      · simp
      · have := q.j1 e he; simp only [List.length_cons]; omega
    · rcases emit_mem he with ⟨rfl, h⟩ | he
      · simp only; omega
      · exact q.pos e he
    · have := q.len
      have := emit_len (i := i) (j := j) (m := t) (T := nw ((g - t) :: gs) ts i (j + 1))
      simp only [List.length_cons] at *
      omega
theorem sm_zero {f : Ent → Bool} : ∀ {T : List Ent}, (∀ e ∈ T, f e = false) → sm f T = 0
  | [], _ => rfl
  | e :: T, h => by
    rw [sm_cons, h e (by simp), sm_zero fun x hx => h x (by simp [hx])]
    rfl
theorem sm_nn {f : Ent → Bool} : ∀ {T : List Ent}, (∀ e ∈ T, 0 ≤ e.2.2) → 0 ≤ sm f T
  | [], _ => by simp [sm]
  | e :: T, h => by
    have h1 := h e (by simp)
    have h2 := sm_nn (f := f) (T := T) fun x hx => h x (by simp [hx])
    rw [sm_cons]
    split <;> omega
/-- nothing goes both ways over a gap -/
theorem mono_fb (k : Nat) : ∀ {T : List Ent}, T.Pairwise mono → sm (fK k) T = 0 ∨ sm (bK k) T = 0
  | [], _ => .inl rfl
  | e :: T, h => by
    rw [List.pairwise_cons] at h
    have ih := mono_fb k h.2
    by_cases h1 : e.1 ≤ k
    · by_cases h2 : e.2.1 ≤ k
      · rw [sm_cons, sm_cons]
        rcases ih with ih | ih
        · left; rw [ih]; simp [fK, show ¬ k < e.2.1 by omega]
        · right; rw [ih]; simp [bK, show ¬ k < e.1 by omega]
      · right
        refine sm_zero fun x hx => ?_
        rcases List.mem_cons.mp hx with rfl | hx
        · simp [bK, h2]
        · have := (h.1 x hx).2.1
          simp [bK, show ¬ x.2.1 ≤ k by omega]
    · left
      refine sm_zero fun x hx => ?_
      rcases List.mem_cons.mp hx with rfl | hx
      · simp [fK, h1]
      · have := (h.1 x hx).1
        simp [fK, show ¬ x.1 ≤ k by omega]
/-! ### what a table costs -/
def wayR (wy : List (Int × Int)) (i j : Nat) : Int := if i ≤ j then (((wy.drop i).take (j - i)).map Prod.fst).sum else (((wy.drop j).take (i - j)).map Prod.snd).sum
def tcost (wy : List (Int × Int)) (T : List Ent) : Int := (T.map fun e => wayR wy e.1 e.2.1 * e.2.2).sum
/-- over the gaps -/
def gsum (F : Int × Int → Nat → Int) : List (Int × Int) → Nat → Int
  | [], _ => 0
  | w :: wy, k => F w k + gsum F wy (k + 1)
theorem gsum_add (F G : Int × Int → Nat → Int) : ∀ (wy : List (Int × Int)) (k : Nat), gsum (fun w k => F w k + G w k) wy k = gsum F wy k + gsum G wy k
  | [], _ => rfl
  | w :: wy, k => by simp only [gsum, gsum_add F G wy]; omega
theorem gsum_mul (F : Int × Int → Nat → Int) (m : Int) : ∀ (wy : List (Int × Int)) (k : Nat), gsum (fun w k => F w k * m) wy k = gsum F wy k * m
  | [], _ => by simp [gsum]
  | w :: wy, k => by simp only [gsum, gsum_mul F m wy, Int.add_mul]
theorem gsum_zero : ∀ (wy : List (Int × Int)) (k : Nat), gsum (fun _ _ => 0) wy k = 0
  | [], _ => rfl
  | w :: wy, k => by simp only [gsum, gsum_zero wy]; rfl
theorem gsum_congr {F G : Int × Int → Nat → Int} : ∀ {wy : List (Int × Int)} {k : Nat}, (∀ w ∈ wy, ∀ k, F w k = G w k) → gsum F wy k = gsum G wy k
  | [], _, _ => rfl
  | w :: wy, k, h => by simp only [gsum]; rw [h w (by simp), gsum_congr fun x hx => h x (by simp [hx])]
theorem seg (f : Int × Int → Int) (i j : Nat) : ∀ (wy : List (Int × Int)) (o : Nat), gsum (fun w k => if i ≤ k ∧ k < j then f w else 0) wy o = (((wy.drop (i - o)).take (j - max i o)).map f).sum
  | [], o => by simp [gsum]
  | w :: wy, o => by
    simp only [gsum]
    rw [seg f i j wy (o + 1)]
    by_cases h1 : i ≤ o
    · rw [show i - o = 0 by omega, show i - (o + 1) = 0 by omega, show max i o = o by omega, show max i (o + 1) = o + 1 by omega]
      by_cases h2 : o < j
      · rw [show j - o = (j - (o + 1)) + 1 by omega]
        simp [h1, h2]
      · rw [show j - o = 0 by omega, show j - (o + 1) = 0 by omega]
        simp [h1, h2]
    · rw [show i - o = (i - (o + 1)) + 1 by omega, show max i o = i by omega, show max i (o + 1) = i by omega]
      simp [h1]
theorem way_g (wy : List (Int × Int)) (i j : Nat) : wayR wy i j = gsum (fun w k => (if i ≤ k ∧ k < j then w.1 else 0) + (if j ≤ k ∧ k < i then w.2 else 0)) wy 0 := by
  rw [gsum_add, seg Prod.fst i j wy 0, seg Prod.snd j i wy 0]
  unfold wayR
  by_cases h : i ≤ j
  · rw [if_pos h, show i - max j 0 = 0 by omega, show j - max i 0 = j - i by omega]
    simp
  · rw [if_neg h, show j - max i 0 = 0 by omega, show i - max j 0 = i - j by omega]
    simp
theorem tcost_g (wy : List (Int × Int)) : ∀ T : List Ent, tcost wy T = gsum (fun w k => w.1 * sm (fK k) T + w.2 * sm (bK k) T) wy 0
  | [] => by
    rw [gsum_congr (G := fun _ _ => 0) (fun w _ k => by simp [sm]), gsum_zero]; rfl
  | e :: T => by
    have ih := tcost_g wy T
    unfold tcost at ih ⊢
    rw [List.map_cons, List.sum_cons, ih, way_g, ← gsum_mul, ← gsum_add]
    refine gsum_congr fun w _ k => ?_
    rw [sm_cons, sm_cons, Int.mul_add, Int.mul_add, Int.add_mul]
    by_cases h1 : e.1 ≤ k ∧ k < e.2.1
    · have h2 : ¬ (e.2.1 ≤ k ∧ k < e.1) := by omega
      rw [if_pos h1, if_neg h2]
      simp [fK, bK, h1.1, h1.2, show ¬ e.2.1 ≤ k by omega]
      omega
    · by_cases h2 : e.2.1 ≤ k ∧ k < e.1
      · rw [if_neg h1, if_pos h2]
        simp [fK, bK, h2.1, h2.2, show ¬ e.1 ≤ k by omega]
        omega
      · rw [if_neg h1, if_neg h2]
        have e1 : fK k e = false := by
          unfold fK
          by_cases h : e.1 ≤ k
          · simp [show ¬ k < e.2.1 by omega]
          · simp [h]
        have e2 : bK k e = false := by
          unfold bK
          by_cases h : e.2.1 ≤ k
          · simp [show ¬ k < e.1 by omega]
          · simp [h]
        rw [e1, e2]
        simp
/-- what is hauled costs -/
theorem gsum_zip (H : List Int) : ∀ {wy : List (Int × Int)} {hs : List Int} {k : Nat} {F : Int × Int → Nat → Int}, hs.length = wy.length → (∀ w ∈ wy, ∀ (n : Nat) (h : Int), hs[n]? = some h → hl w h ≤ F w (k + n)) → ((wy.zip hs).map fun p => hl p.1 p.2).sum ≤ gsum F wy k
  | [], hs, _, _, _, _ => by simp [gsum]
  | w :: wy, [], _, _, h, _ => by simp at h
  | w :: wy, h :: hs, k, F, hl', q => by
    have h1 := q w (by simp) 0 h rfl
    have h2 := gsum_zip H (wy := wy) (hs := hs) (k := k + 1) (F := F) (by simpa using hl') fun w hw n h hn => by
      have := q w (by simp [hw]) (n + 1) h (by simpa using hn)
      rwa [show k + 1 + n = k + (n + 1) by omega]
    simp only [gsum, List.zip_cons_cons, List.map_cons, List.sum_cons]
    rw [Nat.add_zero] at h1
    omega
theorem gsum_zipE : ∀ {wy : List (Int × Int)} {hs : List Int} {k : Nat} {F : Int × Int → Nat → Int}, hs.length = wy.length → (∀ w ∈ wy, ∀ (n : Nat) (h : Int), hs[n]? = some h → hl w h = F w (k + n)) → ((wy.zip hs).map fun p => hl p.1 p.2).sum = gsum F wy k
  | [], hs, _, _, _, _ => by simp [gsum]
  | w :: wy, [], _, _, h, _ => by simp at h
  | w :: wy, h :: hs, k, F, hl', q => by
    have h1 := q w (by simp) 0 h rfl
    have h2 := gsum_zipE (wy := wy) (hs := hs) (k := k + 1) (F := F) (by simpa using hl') fun w hw n h hn => by
      have := q w (by simp [hw]) (n + 1) h (by simpa using hn)
      rwa [show k + 1 + n = k + (n + 1) by omega]
    simp only [gsum, List.zip_cons_cons, List.map_cons, List.sum_cons]
    rw [Nat.add_zero] at h1
    omega
def hcost (wy : List (Int × Int)) (hs : List Int) : Int := ((wy.zip hs).map fun p => hl p.1 p.2).sum
/-- no table costs less than the hauls -/
theorem tcost_ge {wy : List (Int × Int)} {hs : List Int} {T : List Ent} (hw : ∀ w ∈ wy, 0 ≤ w.1 ∧ 0 ≤ w.2) (hl' : hs.length = wy.length) (hp : ∀ e ∈ T, 0 ≤ e.2.2) (hh : ∀ (n : Nat) (h : Int), hs[n]? = some h → sm (pK n) T - sm (qK n) T = h) : hcost wy hs ≤ tcost wy T := by
  rw [tcost_g]
  refine gsum_zip hs hl' fun w hm n h hn => ?_
  rw [Nat.zero_add]
  have e := hh n h hn
  rw [← fb_pq] at e
  have f := sm_nn (f := fK n) hp
  have b := sm_nn (f := bK n) hp
  obtain ⟨w1, w2⟩ := hw w hm
  unfold hl
  have a1 := Int.mul_le_mul_of_nonneg_left (show max 0 h ≤ sm (fK n) T by omega) w1
  have a2 := Int.mul_le_mul_of_nonneg_left (show max 0 (0 - h) ≤ sm (bK n) T by omega) w2
  omega
theorem tcost_eq {wy : List (Int × Int)} {hs : List Int} {T : List Ent} (hl' : hs.length = wy.length) (hp : ∀ e ∈ T, 0 ≤ e.2.2) (hm : T.Pairwise mono) (hh : ∀ (n : Nat) (h : Int), hs[n]? = some h → sm (pK n) T - sm (qK n) T = h) : tcost wy T = hcost wy hs := by
  rw [tcost_g]
  refine (gsum_zipE hl' fun w _ n h hn => ?_).symm
  rw [Nat.zero_add]
  have e := hh n h hn
  rw [← fb_pq] at e
  have f := sm_nn (f := fK n) hp
  have b := sm_nn (f := bK n) hp
  unfold hl
  rcases mono_fb n hm with q | q
  · rw [show max 0 h = sm (fK n) T by omega, show max 0 (0 - h) = sm (bK n) T by omega]
  · rw [show max 0 h = sm (fK n) T by omega, show max 0 (0 - h) = sm (bK n) T by omega]
end Er

end
section
set_option maxHeartbeats 4000000
/-! Pl5: order of data. -/
namespace Pl
open PySem L2 Mi
abbrev leD : PyData → PyData → Bool := PySem.W.dataLe false fun d => d
theorem leD_eq (a b : PyData) : leD a b = !PySem.W.dataLt b a := rfl
theorem leD_trans (a b c : PyData) : leD a b = true → leD b c = true → leD a c = true := (PySem.W.sortLe_total (PyProof.Rows.listOrd PyProof.Rows.itemOrd) false fun b => PySem.W.keyToks b).trans a b c
theorem leD_total (a b : PyData) : (leD a b || leD b a) = true := Bool.or_eq_true _ _ ▸ (PySem.W.sortLe_total (PyProof.Rows.listOrd PyProof.Rows.itemOrd) false fun b => PySem.W.keyToks b).total a b
theorem biE_sorted {os : List O} {ds : List PyData} (h : vals os = some ds) (h2 : srtOk ds = true) : biE .sorted [.lst os] = some (.lst ((ds.mergeSort leD).map O.val)) := by
  show (match O.sh (.lst os) with
    | some d => biD .sorted [d]
    | none => none) = _
  rw [sh_lst, h]
  show (if srtOk ds = true then _ else none) = _
  rw [if_pos h2]
theorem biE_minD {os : List O} {d : PyData} {ds : List PyData} (h : vals os = some (d :: ds)) (h0 : intL (d :: ds) = none) (h2 : minOk (d :: ds) = true) : biE .min1 [.lst os] = some (.val (PySem.W.minD d ds)) := by
  show (match O.sh (.lst os) with
    | some d => biD .min1 [d]
    | none => none) = _
  rw [sh_lst, h]
  show (match intL (d :: ds) with
    | some (i :: r) => iv (leastL i r)
    | _ => if minOk (d :: ds) = true then some (.val (PySem.W.minD d ds)) else none) = _
  rw [h0, if_pos h2]
/-! ### pairs -/
def pD (p : Int × Int) : PyData := .tuple [.int p.1, .int p.2]
abbrev ltP (p q : Int × Int) : Prop := p.1 < q.1 ∨ (p.1 = q.1 ∧ p.2 < q.2)
theorem dataLt_p (p q : Int × Int) : PySem.W.dataLt (pD p) (pD q) = decide (ltP p q) := PySem.W.dataLt_ii _ _ _ _
theorem alike_int {i j : Int} : PySem.W.alike (.int i) (.int j) = true := by simp [PySem.W.alike]
theorem alike_ints : ∀ {xs ys : List Int}, xs.length = ys.length → PySem.W.alikeAll (xs.map PyData.int) (ys.map PyData.int) = true
  | [], _, _ => by simp [PySem.W.alikeAll]
  | x :: xs, [], h => by simp at h
  | x :: xs, y :: ys, h => by simp only [List.map_cons, PySem.W.alikeAll, alike_int, Bool.true_and]; exact alike_ints (by simpa using h)
theorem alike_tup {xs ys : List Int} (h : xs.length = ys.length) : PySem.W.alike (.tuple (xs.map PyData.int)) (.tuple (ys.map PyData.int)) = true := by
  simp only [PySem.W.alike]; exact alike_ints h
theorem dep_ints : ∀ {xs : List Int}, PyData.depthAll (xs.map PyData.int) = 0
  | [] => by simp [PyData.depthAll]
  | x :: xs => by simp [PyData.depthAll, PyData.depth, dep_ints (xs := xs)]
/-- rows of rows of ints of one length -/
def rowsOk (n : Nat) (ds : List PyData) : Prop := ∀ d ∈ ds, ∃ xs : List Int, xs.length = n ∧ d = .tuple (xs.map PyData.int)
theorem srt_rows {n : Nat} (hn : 0 < n) {ds : List PyData} (h : rowsOk n ds) (hl : ds.length ≤ sizeLine) : srtOk ds = true := by
  unfold srtOk
  rw [Bool.and_eq_true, Bool.and_eq_true, Bool.and_eq_true, decide_eq_true_eq]
  refine ⟨⟨⟨?_, ?_⟩, ?_⟩, hl⟩
  · rw [List.all_eq_true]
    intro d hd
    rw [List.all_eq_true]
    intro e he
    obtain ⟨xs, h1, rfl⟩ := h d hd
    obtain ⟨ys, h2, rfl⟩ := h e he
    exact alike_tup (by omega)
  · rw [Bool.or_eq_true]
    left
    rw [List.all_eq_true]
    intro d hd
    obtain ⟨xs, h1, rfl⟩ := h d hd
    cases xs with
    | nil => simp at h1; omega
    | cons x xs => rfl
  · rw [List.all_eq_true]
    intro d hd
    obtain ⟨xs, h1, rfl⟩ := h d hd
    rw [decide_eq_true_eq]
    simp only [PyData.depth, dep_ints]
    decide
theorem min_rows {n : Nat} {ds : List PyData} (h : rowsOk n ds) : minOk ds = true := by
  unfold minOk
  rw [Bool.and_eq_true, Bool.and_eq_true]
  refine ⟨⟨?_, ?_⟩, ?_⟩
  · rw [List.all_eq_true]
    intro d hd
    rw [List.all_eq_true]
    intro e he
    obtain ⟨xs, h1, rfl⟩ := h d hd
    obtain ⟨ys, h2, rfl⟩ := h e he
    exact alike_tup (by omega)
  · rw [List.all_eq_true]
    intro d hd
    obtain ⟨xs, h1, rfl⟩ := h d hd
    rfl
  · rw [List.all_eq_true]
    intro d hd
    obtain ⟨xs, h1, rfl⟩ := h d hd
    rw [decide_eq_true_eq]
    simp only [PyData.depth, dep_ints]
    decide
theorem rows_p (ps : List (Int × Int)) : rowsOk 2 (ps.map pD) := fun d hd => by
  obtain ⟨p, _, rfl⟩ := List.mem_map.mp hd
  exact ⟨[p.1, p.2], rfl, rfl⟩
/-- the least of pairs -/
def minP : Int × Int → List (Int × Int) → Int × Int
  | p, [] => p
  | p, q :: qs => minP (if ltP q p then q else p) qs
theorem minD_p : ∀ (ps : List (Int × Int)) (p : Int × Int), PySem.W.minD (pD p) (ps.map pD) = pD (minP p ps)
  | [], p => rfl
  | q :: qs, p => by
    have ih := minD_p qs (if ltP q p then q else p)
    unfold PySem.W.minD at ih ⊢
    rw [List.map_cons, List.foldl_cons, dataLt_p]
    simp only [minP]
    rw [← ih]
    congr 1
    by_cases h : ltP q p
    · rw [if_pos h, if_pos (decide_eq_true h)]
    · rw [if_neg h, if_neg (by rw [decide_eq_false h]; simp)]
theorem minP_mem : ∀ (ps : List (Int × Int)) (p : Int × Int), minP p ps ∈ p :: ps
  | [], p => by simp [minP]
  | q :: qs, p => by
    have ih := minP_mem qs (if ltP q p then q else p)
    simp only [minP]
    rcases List.mem_cons.mp ih with h | h
    · rw [h]
      split <;> simp
    · simp [h]
theorem minP_le : ∀ (ps : List (Int × Int)) (p : Int × Int), ∀ q ∈ p :: ps, ¬ ltP q (minP p ps)
  | [], p, q, hq => by
    rw [List.mem_singleton] at hq
    subst hq
    simp only [minP, ltP]; omega
  | r :: qs, p, q, hq => by
    have ih := minP_le qs (if ltP r p then r else p)
    simp only [minP]
    generalize minP (if ltP r p then r else p) qs = m at *
    by_cases h : ltP r p
    · rw [if_pos h] at ih
      have h1 := ih r (by simp)
      simp only [List.mem_cons] at hq
      rcases hq with rfl | rfl | hq
      · simp only [ltP] at *; omega
      · exact h1
      · exact ih q (by simp [hq])
    · rw [if_neg h] at ih
      have h1 := ih p (by simp)
      simp only [List.mem_cons] at hq
      rcases hq with rfl | rfl | hq
      · exact h1
      · simp only [ltP] at *; omega
      · exact ih q (by simp [hq])
theorem pD_inj {p q : Int × Int} (h : pD p = pD q) : p = q := by
  unfold pD at h
  simp only [PyData.tuple.injEq, List.cons.injEq, PyData.int.injEq, and_true] at h
  exact Prod.ext h.1 h.2
/-- the first of the sorted is the least -/
theorem sort_head (p : Int × Int) (ps : List (Int × Int)) : (((p :: ps).map pD).mergeSort leD)[0]? = some (pD (minP p ps)) := by
  have hp := List.mergeSort_perm ((p :: ps).map pD) leD
  have hs := List.pairwise_mergeSort (le := leD) leD_trans leD_total ((p :: ps).map pD)
  cases hl : ((p :: ps).map pD).mergeSort leD with
  | nil =>
    rw [hl] at hp
    exact absurd hp.length_eq (by simp)
  | cons d ds =>
    rw [hl] at hp hs
    rw [List.pairwise_cons] at hs
    obtain ⟨q, hq, rfl⟩ := List.mem_map.mp (hp.mem_iff.mp (show d ∈ d :: ds by simp))
    have hm := minP_mem ps p
    have h1 := minP_le ps p q hq
    have h2 : ¬ ltP (minP p ps) q := by
      have hmm := hp.mem_iff.mpr (List.mem_map.mpr ⟨_, hm, rfl⟩ : pD (minP p ps) ∈ (p :: ps).map pD)
      rcases List.mem_cons.mp hmm with e | hmm
      · have := pD_inj e
        rw [this]; simp only [ltP]; omega
      · have := hs.1 _ hmm
        rw [leD_eq, dataLt_p, Bool.not_eq_true', decide_eq_false_iff_not] at this
        exact this
    show some (pD q) = _
    congr 2
    simp only [ltP] at h1 h2
    exact Prod.ext (by omega) (by omega)
@[simp] theorem cmpD_ltP {a b c d : Int} : cmpD .lt (.tuple [.int a, .int b]) (.tuple [.int c, .int d]) = some (decide (a < c ∨ (a = c ∧ b < d))) := by
  show some (HT.lexLt [a, b] [c, d]) = _
  rw [HT.lexLt_cons, HT.lexLt_cons]
  congr 1
  by_cases h : a = c
  · subst h
    by_cases h2 : b = d
    · subst h2; simp [HT.lexLt]
    · simp [h2]
  · simp [h]
@[simp] theorem cmpD_geP {a b c d : Int} : cmpD .ge (.tuple [.int a, .int b]) (.tuple [.int c, .int d]) = some (!decide (a < c ∨ (a = c ∧ b < d))) := by
  show (if ordOk (.tuple [.int a, .int b]) (.tuple [.int c, .int d]) = true then some (!PySem.W.dataLt _ _) else none) = _
  rw [PySem.W.dataLt_ii, if_pos]
  unfold ordOk
  rw [show PySem.W.alike (.tuple [.int a, .int b]) (.tuple [.int c, .int d]) = true from alike_tup (xs := [a, b]) (ys := [c, d]) rfl]
  simp [isNone, PyData.depth, PyData.depthAll]
@[simp] theorem cutL_to2 {α : Type} {xs : List α} : cutL xs none (some 2) = xs.take 2 := cutL_to (k := 2)
end Pl
namespace Er
open PySem L2 Mi Pl
def entD (e : Ent) : PyData := .tuple [.int e.1, .int e.2.1, .int e.2.2]
theorem rows_e (T : List Ent) : rowsOk 3 (T.map entD) := fun d hd => by
  obtain ⟨p, _, rfl⟩ := List.mem_map.mp hd
  exact ⟨[p.1, p.2.1, p.2.2], rfl, rfl⟩
theorem dataLt_e (x y : Ent) (h : mono x y) : PySem.W.dataLt (entD y) (entD x) = false := by
  unfold entD
  rw [PySem.W.dataLt_tuple, PySem.W.dataLt_cons alike_int]
  obtain ⟨h1, h2, h3⟩ := h
  by_cases e : x.1 = y.1
  · rw [if_pos (by simp [PyData.eqv, e]), PySem.W.dataLt_cons alike_int, if_neg (by simp [PyData.eqv]; omega), PySem.W.dataLt_int]
    exact decide_eq_false (by omega)
  · rw [if_neg (by simp [PyData.eqv]; omega), PySem.W.dataLt_int]
    exact decide_eq_false (by omega)
theorem sort_mono {T : List Ent} (h : T.Pairwise mono) : (T.map entD).mergeSort leD = T.map entD := by
  refine List.mergeSort_of_pairwise ?_
  rw [List.pairwise_map]
  exact h.imp fun {x y} q => by rw [leD_eq, dataLt_e x y q]; rfl
end Er

end
section
set_option maxHeartbeats 4000000
/-! ErT2: what tables are; loops with a measure. -/
namespace Pl
open PySem L2 Mi
theorem whl_st {c : En → Option (Bool × En)} {f : En → Option (Fl × En)} (J : Nat → En → Prop) (Q : En → Prop)
    (h : ∀ n r, J n r → (∃ r1, c r = some (false, r1) ∧ Q r1) ∨ ∃ r1 r2 n', c r = some (true, r1) ∧ f r1 = some (.nx, r2) ∧ n' < n ∧ J n' r2) : ∀ {m n : Nat} {r : En}, J n r → n < m → ∃ r1, whlGo c f m r = some (.nx, r1) ∧ Q r1
  | 0, _, _, _, hm => by omega
  | m + 1, n, r, hj, hm => by
    rcases h n r hj with ⟨r1, e, q⟩ | ⟨r1, r2, n', e1, e2, hn, j⟩
    · exact ⟨r1, by simp only [whlGo, e], q⟩
    · obtain ⟨r3, e3, q⟩ := whl_st J Q h (m := m) j (by omega)
      exact ⟨r3, by simp only [whlGo, e1, e2]; exact e3, q⟩
theorem lf_big {n : Nat} (h : n < 2 ^ 40) : n < LF := h
theorem whl_run {c : En → Option (Bool × En)} {f : En → Option (Fl × En)} {r : En} {F : Option (Fl × En)} (hF : whlGo c f LF r = F) (J : Nat → En → Prop) (Q : En → Prop) {n : Nat} (hj : J n r) (hn : n < 2 ^ 40)
    (h : ∀ n r, J n r → (∃ r1, c r = some (false, r1) ∧ Q r1) ∨ ∃ r1 r2 n', c r = some (true, r1) ∧ f r1 = some (.nx, r2) ∧ n' < n ∧ J n' r2) : ∃ r1, F = some (.nx, r1) ∧ Q r1 := by
  subst hF; exact whl_st J Q h hj (lf_big hn)
theorem cutL_mid {α : Type} {xs : List α} {i j : Nat} : cutL xs (some (i : Int)) (some (j : Int)) = (xs.drop i).take (j - i) := by
  unfold cutL
  rw [HT.sIx_nat, HT.sIx_nat]
  by_cases h : i ≤ xs.length
  · rw [Nat.min_eq_left h]
    by_cases h2 : j ≤ xs.length
    · rw [Nat.min_eq_left h2]
    · rw [Nat.min_eq_right (by omega), List.take_of_length_le (by rw [List.length_drop]; omega), List.take_of_length_le (by rw [List.length_drop]; omega)]
  · rw [Nat.min_eq_right (Nat.le_of_not_le h), List.drop_of_length_le (Nat.le_refl _), List.drop_of_length_le (Nat.le_of_not_le h)]
    simp
@[simp] theorem cutL_to_succ {α : Type} {xs : List α} {k : Nat} : cutL xs none (some ((k : Int) + 1)) = xs.take (k + 1) := cutL_to (k := k + 1)
theorem vok_pD {p : Int × Int} : vok (pD p) := ⟨rfl, by simp [pD, PyData.depth, PyData.depthAll]⟩
end Pl
namespace Er
open PySem L2 Mi Pl
/-- what goes away, what comes -/
def gvR (am bs : List Int) : List Int := (am.zip bs).map fun p => max 0 p.1 + p.2
def tkR (am ds : List Int) : List Int := (am.zip ds).map fun p => max 0 (0 - p.1) + p.2
abbrev iO2 (a : Int) : O := .val (.int a)
def gtstep (s : List Int × List Int) (p : Int × Int × Int) : List Int × List Int := (s.1 ++ [max 0 p.1 + p.2.1], s.2 ++ [max 0 (0 - p.1) + p.2.2])
theorem gt_fold : ∀ {am bs ds : List Int} {s : List Int × List Int}, bs.length = am.length → ds.length = am.length → (am.zip (bs.zip ds)).foldl gtstep s = (s.1 ++ gvR am bs, s.2 ++ tkR am ds)
  | [], _, _, s, _, _ => by simp [gvR, tkR]
  | a :: am, b :: bs, d :: ds, s, h1, h2 => by
    rw [List.zip_cons_cons, List.zip_cons_cons, List.foldl_cons, gt_fold (by simpa using h1) (by simpa using h2)]
    simp [gtstep, gvR, tkR]
theorem gv_len {am bs : List Int} (h : bs.length = am.length) : (gvR am bs).length = am.length := by simp [gvR, h]
theorem tk_len {am bs : List Int} (h : bs.length = am.length) : (tkR am bs).length = am.length := by simp [tkR, h]
theorem gv_nn {am bs : List Int} (h : ∀ b ∈ bs, 0 ≤ b) : nn (gvR am bs) := fun x hx => by
  obtain ⟨p, hp, rfl⟩ := List.mem_map.mp hx
  have := h p.2 (List.of_mem_zip hp).2
  omega
theorem tk_nn {am bs : List Int} (h : ∀ b ∈ bs, 0 ≤ b) : nn (tkR am bs) := fun x hx => by
  obtain ⟨p, hp, rfl⟩ := List.mem_map.mp hx
  have := h p.2 (List.of_mem_zip hp).2
  omega
theorem kept_nn {o : Option Int × Option Int → Option Int} {tp : List (Option Int × Option Int)} {xs : List Int} (h : kept o tp xs = true) (hl : xs.length = tp.length) : ∀ x ∈ xs, 0 ≤ x := by
  induction tp generalizing xs with
  | nil => intro x hx; cases xs with
    | nil => simp at hx
    | cons _ _ => simp at hl
  | cons t tp ih =>
    cases xs with
    | nil => intro x hx; simp at hx
    | cons y xs =>
      simp only [kept, List.zip_cons_cons, List.all_cons, Bool.and_eq_true, decide_eq_true_eq, Bool.or_eq_true] at h
      intro x hx
      rcases List.mem_cons.mp hx with rfl | hx
      · exact h.1.1
      · exact ih h.2 (by simpa using hl) x hx
/-- what is hauled is what went away less what came -/
theorem hauls_gt : ∀ {am bs ds : List Int} {l : Int} {n : Nat} {h : Int}, bs.length = am.length → ds.length = am.length → (hauls l am bs ds)[n]? = some h → h = l + ((gvR am bs).take (n + 1)).sum - ((tkR am ds).take (n + 1)).sum
  | [], _, _, _, _, _, _, _, e => by simp [hauls] at e
  | a :: am, b :: bs, d :: ds, l, n, h, h1, h2, e => by
    simp only [hauls] at e
    simp only [gvR, tkR, List.zip_cons_cons, List.map_cons, List.take_succ_cons, List.sum_cons]
    cases n with
    | zero =>
      simp at e
      simp
      omega
    | succ n =>
      have ih := hauls_gt (n := n) (l := l + a + b - d) (by simpa using h1) (by simpa using h2) (by simpa using e)
      simp only [gvR, tkR] at ih
      omega
/-! ### any values as tables -/
def entOf (n : Nat) : PyData → Option Ent
  | .tuple [.int i, .int j, .int m] => if 0 ≤ i ∧ i < n ∧ 0 ≤ j ∧ j < n ∧ 0 < m then some (i.toNat, j.toNat, m) else none
  | _ => none
theorem entOf_some {n : Nat} {d : PyData} {e : Ent} (h : entOf n d = some e) : d = entD e ∧ e.1 < n ∧ e.2.1 < n ∧ 0 < e.2.2 := by
  unfold entOf at h
  split at h
  · split at h
    · rename_i i j m hc
      cases h
      unfold entD
      simp only
      refine ⟨?_, by omega, by omega, by omega⟩
      rw [Int.toNat_of_nonneg hc.1, Int.toNat_of_nonneg hc.2.2.1]
    · cases h
  · cases h
theorem entOf_ent {n : Nat} {e : Ent} (h : e.1 < n ∧ e.2.1 < n ∧ 0 < e.2.2) : entOf n (entD e) = some e := by
  unfold entD entOf
  simp only
  rw [if_pos (by omega)]
  simp
def entsOf (n : Nat) : List PyData → Option (List Ent)
  | [] => some []
  | d :: ds => match entOf n d, entsOf n ds with
    | some e, some T => some (e :: T)
    | _, _ => none
theorem entsOf_some {n : Nat} : ∀ {ds : List PyData} {T : List Ent}, entsOf n ds = some T → ds = T.map entD ∧ ∀ e ∈ T, e.1 < n ∧ e.2.1 < n ∧ 0 < e.2.2
  | [], T, h => by cases h; exact ⟨rfl, by simp⟩
  | d :: ds, T, h => by
    simp only [entsOf] at h
    split at h
    · rename_i e T' e1 e2
      cases h
      obtain ⟨r1, r2⟩ := entsOf_some e2
      obtain ⟨q1, q2⟩ := entOf_some e1
      refine ⟨by rw [List.map_cons, ← q1, ← r1], fun x hx => ?_⟩
      rcases List.mem_cons.mp hx with rfl | hx
      · exact q2
      · exact r2 x hx
    · cases h
theorem entsOf_ents {n : Nat} : ∀ {T : List Ent}, (∀ e ∈ T, e.1 < n ∧ e.2.1 < n ∧ 0 < e.2.2) → entsOf n (T.map entD) = some T
  | [], _ => rfl
  | e :: T, h => by
    have ih := entsOf_ents (n := n) (T := T) fun x hx => h x (by simp [hx])
    simp only [List.map_cons, entsOf, entOf_ent (h e (by simp)), ih]
theorem entsOf_isSome {n : Nat} : ∀ {ds : List PyData}, (entsOf n ds).isSome = ds.all fun d => (entOf n d).isSome
  | [] => rfl
  | d :: ds => by
    rw [List.all_cons, ← entsOf_isSome (ds := ds)]
    simp only [entsOf]
    cases entOf n d with
    | none => simp
    | some e => cases entsOf n ds <;> simp
def lexE (p : Ent × Ent) : Bool := decide (p.1.1 < p.2.1 ∨ (p.1.1 = p.2.1 ∧ p.1.2.1 < p.2.2.1))
def rsum (k : Nat) (T : List Ent) : Int := ((T.filter fun e => decide (e.1 = k)).map fun e => e.2.2).sum
def csum (k : Nat) (T : List Ent) : Int := ((T.filter fun e => decide (e.2.1 = k)).map fun e => e.2.2).sum
def tabR (n : Nat) (g t : List Int) (T : List Ent) : Bool := (T.zip T.tail).all lexE && (List.range n).all fun k => decide (rsum k T = g.getD k 0) && decide (csum k T = t.getD k 0)
def isTab (n : Nat) (g t : List Int) (v : PyData) : Bool := match seqD v with
  | some ds => match entsOf n ds with
    | some T => tabR n g t T
    | none => false
  | none => false
theorem pK_rsum (T : List Ent) : ∀ n : Nat, sm (pK n) T = ((List.range (n + 1)).map fun k => rsum k T).sum := by
  have step : ∀ (f : Ent → Nat) (T : List Ent) (n : Nat), sm (fun e => decide (f e ≤ n + 1)) T = sm (fun e => decide (f e ≤ n)) T + ((T.filter fun e => decide (f e = n + 1)).map fun e => e.2.2).sum := by
    intro f T n
    induction T with
    | nil => rfl
    | cons e T ih =>
      rw [sm_cons, sm_cons, ih, List.filter_cons]
      by_cases h1 : f e ≤ n
      · simp [h1, show f e ≤ n + 1 by omega, show ¬ f e = n + 1 by omega]; omega
      · by_cases h2 : f e = n + 1
        · simp [h2]; omega
        · simp [h1, h2, show ¬ f e ≤ n + 1 by omega]
  intro n
  induction n with
  | zero =>
    simp only [List.range_succ, List.range_zero, List.nil_append, List.map_cons, List.map_nil, List.sum_cons, List.sum_nil]
    induction T with
    | nil => rfl
    | cons e T ih =>
      rw [sm_cons, ih, rsum, rsum, List.filter_cons]
      by_cases h : e.1 = 0 <;> simp [pK, h]
  | succ n ih =>
    rw [List.range_succ, List.map_append, List.sum_append, ← ih]
    have := step (fun e => e.1) T n
    simp only [pK, rsum] at this ⊢
    rw [this]; simp
theorem qK_csum (T : List Ent) : ∀ n : Nat, sm (qK n) T = ((List.range (n + 1)).map fun k => csum k T).sum := by
  have h := fun n => pK_rsum (T.map fun e => (e.2.1, e.1, e.2.2)) n
  intro n
  have := h n
  have e1 : sm (pK n) (T.map fun e => (e.2.1, e.1, e.2.2)) = sm (qK n) T := by
    unfold sm; rw [List.map_map]; rfl
  have e2 : ∀ k, rsum k (T.map fun e => (e.2.1, e.1, e.2.2)) = csum k T := fun k => by
    unfold rsum csum
    rw [List.filter_map, List.map_map]; rfl
  rw [e1] at this
  rw [this]
  congr 1
  exact List.map_congr_left fun k _ => e2 k
theorem take_sum (xs : List Int) : ∀ n : Nat, (xs.take n).sum = ((List.range n).map fun k => xs.getD k 0).sum
  | 0 => by simp
  | n + 1 => by
    rw [List.range_succ, List.map_append, List.sum_append, ← take_sum xs n, List.take_add_one, List.sum_append]
    simp only [List.map_cons, List.map_nil, List.sum_cons, List.sum_nil, List.getD_eq_getElem?_getD]
    cases h : xs[n]? <;> simp
/-- a table goes over the gaps as the plan hauls -/
theorem tab_hauls {am bs ds hs : List Int} {T : List Ent} (hb : bs.length = am.length) (hd : ds.length = am.length) (hh : hauls 0 am bs ds = hs ++ [0]) (ht : tabR am.length (gvR am bs) (tkR am ds) T = true) : ∀ (n : Nat) (h : Int), hs[n]? = some h → sm (pK n) T - sm (qK n) T = h := by
  intro n h hn
  have hl := hauls_len (l := 0) hb hd
  rw [hh] at hl
  simp only [List.length_append, List.length_singleton] at hl
  have hnl := (List.getElem?_eq_some_iff.mp hn).1
  have e := hauls_gt (l := 0) (n := n) (h := h) hb hd (by rw [hh, List.getElem?_append_left hnl, hn])
  unfold tabR at ht
  rw [Bool.and_eq_true] at ht
  have hk := List.all_eq_true.mp ht.2
  rw [pK_rsum, qK_csum, e, take_sum, take_sum]
  have e1 : (List.range (n + 1)).map (fun k => rsum k T) = (List.range (n + 1)).map fun k => (gvR am bs).getD k 0 := List.map_congr_left fun k hkm => by
    have := hk k (List.mem_range.mpr (by have := List.mem_range.mp hkm; omega))
    rw [Bool.and_eq_true, decide_eq_true_eq, decide_eq_true_eq] at this
    exact this.1
  have e2 : (List.range (n + 1)).map (fun k => csum k T) = (List.range (n + 1)).map fun k => (tkR am ds).getD k 0 := List.map_congr_left fun k hkm => by
    have := hk k (List.mem_range.mpr (by have := List.mem_range.mp hkm; omega))
    rw [Bool.and_eq_true, decide_eq_true_eq, decide_eq_true_eq] at this
    exact this.2
  rw [e1, e2]
  omega
/-- the told table -/
def tolR (am bs ds : List Int) : List Ent := nw (gvR am bs) (tkR am ds) 0 0
theorem sum_gt : ∀ {am bs ds : List Int}, bs.length = am.length → ds.length = am.length → (gvR am bs).sum - (tkR am ds).sum = tot am bs ds
  | [], [], [], _, _ => rfl
  | a :: am, b :: bs, d :: ds, h1, h2 => by
    have ih := sum_gt (am := am) (bs := bs) (ds := ds) (by simpa using h1) (by simpa using h2)
    simp only [gvR, tkR, tot, List.zip_cons_cons, List.map_cons, List.sum_cons] at ih ⊢
    omega
theorem tol_hauls {am bs ds hs : List Int} (hb : bs.length = am.length) (hd : ds.length = am.length) (nb : nn bs) (nd : nn ds) (hh : hauls 0 am bs ds = hs ++ [0]) (hz : tot am bs ds = 0) : ∀ (n : Nat) (h : Int), hs[n]? = some h → sm (pK n) (tolR am bs ds) - sm (qK n) (tolR am bs ds) = h := by
  intro n h hn
  have hnl := (List.getElem?_eq_some_iff.mp hn).1
  have e := hauls_gt (l := 0) (n := n) (h := h) hb hd (by rw [hh, List.getElem?_append_left hnl, hn])
  have hs := sum_gt hb hd
  unfold tolR
  rw [nw_P n (gv_nn nb) (tk_nn nd) (by omega), nw_Q n (gv_nn nb) (tk_nn nd) (by omega), e]
  simp
theorem isTab_no {m : Nat} {g t : List Int} {v : PyData} {ds : List PyData} (h : seqD v = some ds) (h2 : entsOf m ds = none) : isTab m g t v = false := by
  unfold isTab; simp only [h, h2]
theorem isTab_yes {m : Nat} {g t : List Int} {v : PyData} {ds : List PyData} {T : List Ent} (h : seqD v = some ds) (h2 : entsOf m ds = some T) : isTab m g t v = tabR m g t T := by
  unfold isTab; simp only [h, h2]
theorem seq_cases {v : PyData} {vs : List PyData} (hq : seqD v = some vs) : v = .list vs ∨ v = .tuple vs := by
  unfold seqD at hq
  split at hq <;> cases hq
  · exact .inl rfl
  · exact .inr rfl
theorem isTab_inv {m : Nat} {g t : List Int} {v : PyData} (h : isTab m g t v = true) : ∃ T : List Ent, seqD v = some (T.map entD) ∧ (∀ e ∈ T, e.1 < m ∧ e.2.1 < m ∧ 0 < e.2.2) ∧ tabR m g t T = true := by
  unfold isTab at h
  split at h
  · rename_i ds hs
    split at h
    · rename_i T hT
      obtain ⟨rfl, q⟩ := entsOf_some hT
      exact ⟨T, hs, q, h⟩
    · cases h
  · cases h
theorem sum_bdI {B : Int} : ∀ {xs : List Int}, (∀ x ∈ xs, 0 ≤ x ∧ x ≤ B) → 0 ≤ xs.sum ∧ xs.sum ≤ xs.length * B
  | [], _ => by simp
  | x :: xs, h => by
    have h1 := h x (by simp)
    have h2 := sum_bdI (xs := xs) fun y hy => h y (by simp [hy])
    rw [List.sum_cons, List.length_cons, Int.natCast_add, Int.add_mul]
    simp
    omega
theorem way_bd {e : E} (he : ok e) (i j : Nat) : 0 ≤ wayR e.wy i j ∧ wayR e.wy i j ≤ 1000 := by
  have h2 := he.l2; have h3 := he.lw
  unfold wayR
  split
  · have := sum_bdI (B := 99) (xs := ((e.wy.drop i).take (j - i)).map Prod.fst) fun x hx => by
      obtain ⟨w, hw, rfl⟩ := List.mem_map.mp hx
      have := he.wy w (List.mem_of_mem_drop (List.mem_of_mem_take hw))
      omega
    rw [List.length_map, List.length_take, List.length_drop] at this
    omega
  · have := sum_bdI (B := 99) (xs := ((e.wy.drop j).take (i - j)).map Prod.snd) fun x hx => by
      obtain ⟨w, hw, rfl⟩ := List.mem_map.mp hx
      have := he.wy w (List.mem_of_mem_drop (List.mem_of_mem_take hw))
      omega
    rw [List.length_map, List.length_take, List.length_drop] at this
    omega
/-- the line: the amounts' sums -/
def lnR (e : E) : List Int := (List.range e.wy.length).map fun k => (e.am.take (k + 1)).sum
def shR (e : E) (x : Int) : Int := ((e.wy.zip ((lnR e).map fun y => y + x)).map fun p => hl p.1 p.2).sum
def balL (e : E) : List (Int × Int) := (lnR e).map fun x => (shR e (0 - x), 0 - x)
def balR (e : E) : Int := match balL e with
  | [] => 0
  | p :: ps => (minP p ps).2
theorem ln_len (e : E) : (lnR e).length = e.wy.length := by simp [lnR]
end Er

end
section
set_option maxHeartbeats 4000000
/-! K91E: tables told. -/
namespace K91
open PySem Mi Pl Er
theorem c_gives_and_takes (e : E) (he : ok e) (hs bs ds : List Int) (lb : bs.length = e.am.length) (ld : ds.length = e.am.length) (n : Nat) : cl gl Ps (n + 1) 12 [.val (eD e), .val (plD hs bs ds)] = some (.tup [.lst ((gvR e.am bs).map iO2), .lst ((tkR e.am ds).map iO2)], [none, none]) := by
  have h1 := he.l1; have h2 := he.l2
  rw [r_gives_and_takes]
  simp [s_gives_and_takes, eD, plD, zipE_3, zip3_map]
  generalize hF : forGo _ _ _ _ = F
  obtain ⟨r1, rfl, l1, l2, x1, x2, x3, rfl⟩ := for_foldC hF rfl (fun k s r => s.1.length = k ∧ s.2.length = k ∧ ∃ x1 x2 x3, r = [some (.val (eD e)), some (.val (plD hs bs ds)), some (.lst (s.1.map iO2)), some (.lst (s.2.map iO2)), x1, x2, x3]) gtstep (s := ([], [])) ⟨rfl, rfl, none, none, none, rfl⟩ (by
    rintro ⟨a, b, d⟩ hi k ⟨f, l⟩ r hk ⟨l1, l2, x1, x2, x3, rfl⟩
    simp only [List.length_zip] at hk
    simp only at l1 l2
    have zk : f.length < sizeLine := by unfold sizeLine; omega
    have zl : l.length < sizeLine := by unfold sizeLine; omega
    subst l1
    simp [zk, zl, l2, gtstep])
  rw [gt_fold lb ld, List.nil_append, List.nil_append]
  simp
theorem c_way_of (e : E) (he : ok e) (i j : Nat) (n : Nat) : cl gl Ps (n + 1) 16 [.val (eD e), .val (.int i), .val (.int j)] = some (.val (.int (wayR e.wy i j)), [none, none, none]) := by
  have h2 := he.l2; have h3 := he.lw
  have sz : ∀ a b : Nat, ((e.wy.drop a).take b).length ≤ sizeLine := fun a b => by rw [List.length_take, List.length_drop]; unfold sizeLine; omega
  rw [r_way_of]
  by_cases h : i ≤ j
  · have hc : cutL (e.wy.map wD) (some (i : Int)) (some (j : Int)) = ((e.wy.drop i).take (j - i)).map wD := by rw [cutL_mid, List.map_take, List.map_drop]
    simp [-List.map_take, -List.map_drop, -List.length_take, -List.length_drop, s_way_of, eD, h, cutO, hc, plainAt]
    generalize hF : lcGo _ _ _ = F
    have hF := lc_enc hF rfl (fun w => iO2 w.1) (by
      rintro ⟨w1, w2⟩ hi
      simp [lcF, wD])
    subst hF
    simp [-List.map_take, -List.map_drop, -List.length_take, -List.length_drop, sz, wayR, h]
  · have hc : cutL (e.wy.map wD) (some (j : Int)) (some (i : Int)) = ((e.wy.drop j).take (i - j)).map wD := by rw [cutL_mid, List.map_take, List.map_drop]
    simp [-List.map_take, -List.map_drop, -List.length_take, -List.length_drop, s_way_of, eD, h, cutO, hc, plainAt]
    generalize hF : lcGo _ _ _ = F
    have hF := lc_enc hF rfl (fun w => iO2 w.2) (by
      rintro ⟨w1, w2⟩ hi
      simp [lcF, wD])
    subst hF
    simp [-List.map_take, -List.map_drop, -List.length_take, -List.length_drop, sz, wayR, h]
theorem c_is_position (v : PyData) (m : Nat) (n : Nat) (h : nd v = true) : cl gl Ps (n + 3) 3 [.val v, .val (.int m)] = some (.val (.bool (match v with | .int i => decide (0 ≤ i) && decide (i < m) | _ => false)), [none, none]) := by
  rw [r_is_position]
  have hc := c_is_count v n h
  cases v with
  | int i =>
    by_cases h0 : 0 ≤ i
    · simp [s_is_position, hc, isC, h0]
    · simp [s_is_position, hc, isC, h0]
  | _ => simp [s_is_position, hc, isC]
theorem c_entry_is_right (v : PyData) (m : Nat) (n : Nat) (h : nd v = true) : cl gl Ps (n + 4) 14 [.val v, .val (.int m)] = some (.val (.bool (entOf m v).isSome), [none, none]) := by
  rw [r_entry_is_right]
  cases v with
  | dict _ => simp at h
  | tuple ds =>
    by_cases hl : ds.length = 3
    · obtain ⟨a, b, c, rfl⟩ := three hl
      have hn : (nd a = true ∧ nd b = true) ∧ nd c = true := by simpa [and_assoc] using h
      have pa := c_is_position a m n hn.1.1
      have pb := c_is_position b m n hn.1.2
      have pc := c_is_count c (n + 1) hn.2
      cases c with
      | int k =>
        by_cases hk : 0 ≤ k
        · by_cases hk0 : k = 0
          · have e0 : entOf m (.tuple [a, b, .int k]) = none := by
              unfold entOf; split
              · rename_i heq; simp at heq; rw [if_neg (by omega)]
              · rfl
            rw [e0]
            simp [s_entry_is_right, pc, isC, hk0]
          · cases a with
            | int i =>
              by_cases hi : 0 ≤ i ∧ i < m
              · cases b with
                | int j =>
                  by_cases hj : 0 ≤ j ∧ j < m
                  · have e0 : (entOf m (.tuple [.int i, .int j, .int k])).isSome = true := by
                      unfold entOf; simp only; rw [if_pos (by omega)]; rfl
                    simp [s_entry_is_right, pc, isC, hk, hk0, pa, pb, hi, hj, e0]
                  · have e0 : (entOf m (.tuple [.int i, .int j, .int k])).isSome = false := by
                      unfold entOf; simp only; rw [if_neg (by omega)]; rfl
                    have e1 : (decide (0 ≤ j) && decide (j < (m : Int))) = false := by rw [← Bool.decide_and, decide_eq_false hj]
                    simp [-Bool.and_eq_true, s_entry_is_right, pc, isC, hk, hk0, pa, pb, hi, e1, e0]
                | _ => simp [s_entry_is_right, pc, isC, hk, hk0, pa, pb, hi, entOf]
              · have e0 : (entOf m (.tuple [.int i, b, .int k])).isSome = false := by
                  unfold entOf; split
                  · rename_i heq; simp at heq; rw [if_neg (by omega)]; rfl
                  · rfl
                have e1 : (decide (0 ≤ i) && decide (i < (m : Int))) = false := by rw [← Bool.decide_and, decide_eq_false hi]
                simp [-Bool.and_eq_true, s_entry_is_right, pc, isC, hk, hk0, pa, e1, e0]
            | _ => simp [s_entry_is_right, pc, isC, hk, hk0, pa, entOf]
        · have e0 : entOf m (.tuple [a, b, .int k]) = none := by
            unfold entOf; split
            · rename_i heq; simp at heq; rw [if_neg (by omega)]
            · rfl
          simp [s_entry_is_right, pc, isC, hk, e0]
      | _ => simp [s_entry_is_right, pc, isC, entOf]
    · have e0 : entOf m (.tuple ds) = none := by
        unfold entOf; split
        · rename_i heq; cases heq; simp at hl
        · rfl
      have : ¬ (ds.length : Int) = 3 := by omega
      simp [s_entry_is_right, this, e0]
  | _ => simp [s_entry_is_right, entOf]
def eT (e : E) (hs bs ds G T : List Int) (fd : List Ent) (i j : Nat) (x7 : Option O) : En := [some (.val (eD e)), some (.val (plD hs bs ds)), some (.lst (G.map iO2)), some (.lst (T.map iO2)), some (.lst (fd.map fun e => O.val (entD e))), some (iO2 i), some (iO2 j), x7]
theorem c_table_of (e : E) (he : ok e) (hs bs ds : List Int) (lb : bs.length = e.am.length) (ld : ds.length = e.am.length) (nb : nn bs) (nd : nn ds) (n : Nat) : cl gl Ps (n + 2) 13 [.val (eD e), .val (plD hs bs ds)] = some (.lst (((tolR e.am bs ds).map entD).map O.val), [none, none]) := by
  have h1 := he.l1; have h2 := he.l2
  have lg := gv_len lb
  have lt := tk_len ld
  rw [r_table_of]
  simp [s_table_of, c_gives_and_takes e he hs bs ds lb ld n]
  generalize hF : whlGo _ _ _ _ = F
  obtain ⟨r1, rfl, G, T, i, j, x7, rfl⟩ := whl_run hF (fun k r => ∃ (G T : List Int) (fd : List Ent) (i j : Nat) (x7 : Option O), r = eT e hs bs ds G T fd i j x7 ∧ G.length = e.am.length ∧ T.length = e.am.length ∧ i ≤ e.am.length ∧ j ≤ e.am.length ∧ nn (G.drop i) ∧ nn (T.drop j) ∧ fd ++ nw (G.drop i) (T.drop j) i j = tolR e.am bs ds ∧ fd.length ≤ i + j ∧ k = (e.am.length - i) + (e.am.length - j))
    (fun r => ∃ (G T : List Int) (i j : Nat) (x7 : Option O), r = eT e hs bs ds G T (tolR e.am bs ds) i j x7) (n := e.am.length + e.am.length)
    ⟨gvR e.am bs, tkR e.am ds, [], 0, 0, none, rfl, lg, lt, by omega, by omega, gv_nn nb, tk_nn nd, rfl, by simp, by omega⟩ (by omega) (by
      rintro k r ⟨G, T, fd, i, j, x7, rfl, lG, lT, hi, hj, nG, nT, hfd, lfd, hk⟩
      by_cases hi2 : i < e.am.length
      · by_cases hj2 : j < e.am.length
        · right
          obtain ⟨g, hg⟩ := get_some (xs := G) (i := i) (by omega)
          obtain ⟨t, ht⟩ := get_some (xs := T) (i := j) (by omega)
          have dG : G.drop i = g :: G.drop (i + 1) := by
            rw [List.drop_eq_getElem_cons (by omega)]
            congr 1
            exact (List.getElem?_eq_some_iff.mp hg).2
          have dT : T.drop j = t :: T.drop (j + 1) := by
            rw [List.drop_eq_getElem_cons (by omega)]
            congr 1
            exact (List.getElem?_eq_some_iff.mp ht).2
          rw [dG, nn_cons] at nG
          rw [dT, nn_cons] at nT
          have sG : ∀ y, (G.set i y).drop i = y :: G.drop (i + 1) := fun y => by
            rw [List.drop_eq_getElem_cons (by rw [List.length_set]; omega)]
            simp [List.drop_set]
          have sT : ∀ y, (T.set j y).drop j = y :: T.drop (j + 1) := fun y => by
            rw [List.drop_eq_getElem_cons (by rw [List.length_set]; omega)]
            simp [List.drop_set]
          have sG1 : ∀ y, (G.set i y).drop (i + 1) = G.drop (i + 1) := fun y => by simp [List.drop_set]
          have sT1 : ∀ y, (T.set j y).drop (j + 1) = T.drop (j + 1) := fun y => by simp [List.drop_set]
          have ix1 : L2.ixN e.am.length (i : Int) = some i := ixN_nat (by omega)
          have ix2 : L2.ixN e.am.length (j : Int) = some j := ixN_nat (by omega)
          have zf : fd.length < sizeLine := by unfold sizeLine; omega
          have hs1 : ∀ y : Int, ((G.map iO2).set i (O.val (.int y)))[i]? = some (O.val (.int y)) := fun y => by rw [List.getElem?_set_self (by rw [List.length_map]; omega)]
          by_cases hc : g ≤ t
          · have hm : min g t = g := by omega
            have fin : ∀ fd' : List Ent, fd' = (if 0 < g then fd ++ [(i, j, g)] else fd) → ∃ (G' T' : List Int) (fd2 : List Ent) (i' j' : Nat) (y7 : Option O), eT e hs bs ds (G.set i (g - g)) (T.set j (t - g)) fd' (i + 1) j (some (iO2 g)) = eT e hs bs ds G' T' fd2 i' j' y7 ∧ G'.length = e.am.length ∧ T'.length = e.am.length ∧ i' ≤ e.am.length ∧ j' ≤ e.am.length ∧ nn (G'.drop i') ∧ nn (T'.drop j') ∧ fd2 ++ nw (G'.drop i') (T'.drop j') i' j' = tolR e.am bs ds ∧ fd2.length ≤ i' + j' ∧ k - 1 = (e.am.length - i') + (e.am.length - j') := by
              intro fd' hfd'
              refine ⟨_, _, _, _, _, _, rfl, by simpa using lG, by simpa using lT, by omega, by omega, ?_, ?_, ?_, ?_, by omega⟩
              · rw [sG1]; exact nG.2
              · rw [sT]; exact nn_cons.mpr ⟨by omega, nT.2⟩
              · rw [← hfd, dG, dT, nw_le hc, sG1, sT, hfd']
                by_cases h0 : 0 < g <;> simp [emit, h0]
              · rw [hfd']; split
                · simp; omega
                · omega
            by_cases h0 : 0 < g
            · refine ⟨eT e hs bs ds G T fd i j x7, eT e hs bs ds (G.set i (g - g)) (T.set j (t - g)) (fd ++ [(i, j, g)]) (i + 1) j (some (iO2 g)), k - 1, by simp [eT, cndK, hi2, hj2, lG, lT], ?_, by omega, fin _ (by rw [if_pos h0])⟩
              simp [eT, hg, ht, hm, h0, zf, ix1, ix2, lG, lT, hs1]
              simp [entD]
            · refine ⟨eT e hs bs ds G T fd i j x7, eT e hs bs ds (G.set i (g - g)) (T.set j (t - g)) fd (i + 1) j (some (iO2 g)), k - 1, by simp [eT, cndK, hi2, hj2, lG, lT], ?_, by omega, fin _ (by rw [if_neg h0])⟩
              simp [eT, hg, ht, hm, h0, zf, ix1, ix2, lG, lT, hs1]
          · have hm : min g t = t := by omega
            have hne : ¬ g - t = 0 := by omega
            have fin : ∀ fd' : List Ent, fd' = (if 0 < t then fd ++ [(i, j, t)] else fd) → ∃ (G' T' : List Int) (fd2 : List Ent) (i' j' : Nat) (y7 : Option O), eT e hs bs ds (G.set i (g - t)) (T.set j (t - t)) fd' i (j + 1) (some (iO2 t)) = eT e hs bs ds G' T' fd2 i' j' y7 ∧ G'.length = e.am.length ∧ T'.length = e.am.length ∧ i' ≤ e.am.length ∧ j' ≤ e.am.length ∧ nn (G'.drop i') ∧ nn (T'.drop j') ∧ fd2 ++ nw (G'.drop i') (T'.drop j') i' j' = tolR e.am bs ds ∧ fd2.length ≤ i' + j' ∧ k - 1 = (e.am.length - i') + (e.am.length - j') := by
              intro fd' hfd'
              refine ⟨_, _, _, _, _, _, rfl, by simpa using lG, by simpa using lT, by omega, by omega, ?_, ?_, ?_, ?_, by omega⟩
              · rw [sG]; exact nn_cons.mpr ⟨by omega, nG.2⟩
              · rw [sT1]; exact nT.2
              · rw [← hfd, dG, dT, nw_gt (by omega), sG, sT1, hfd']
                by_cases h0 : 0 < t <;> simp [emit, h0]
              · rw [hfd']; split
                · simp; omega
                · omega
            by_cases h0 : 0 < t
            · refine ⟨eT e hs bs ds G T fd i j x7, eT e hs bs ds (G.set i (g - t)) (T.set j (t - t)) (fd ++ [(i, j, t)]) i (j + 1) (some (iO2 t)), k - 1, by simp [eT, cndK, hi2, hj2, lG, lT], ?_, by omega, fin _ (by rw [if_pos h0])⟩
              simp [eT, hg, ht, hm, h0, zf, ix1, ix2, lG, lT, hs1, hne, entD]
            · refine ⟨eT e hs bs ds G T fd i j x7, eT e hs bs ds (G.set i (g - t)) (T.set j (t - t)) fd i (j + 1) (some (iO2 t)), k - 1, by simp [eT, cndK, hi2, hj2, lG, lT], ?_, by omega, fin _ (by rw [if_neg h0])⟩
              simp [eT, hg, ht, hm, h0, zf, ix1, ix2, lG, lT, hs1, hne]
        · left
          refine ⟨_, by simp [eT, cndK, hi2, hj2, lG, lT] <;> rfl, G, T, i, j, x7, ?_⟩
          rw [show T.drop j = [] from List.drop_of_length_le (by omega), nw_nil2, List.append_nil] at hfd
          rw [← hfd]
          rfl
      · left
        refine ⟨_, by simp [eT, cndK, hi2, lG, lT] <;> rfl, G, T, i, j, x7, ?_⟩
        rw [show G.drop i = [] from List.drop_of_length_le (by omega), nw_nil, List.append_nil] at hfd
        rw [← hfd]
        rfl)
  simp [eT]
end K91

end
section
set_option maxHeartbeats 4000000
/-! K91F: any values as tables. -/
namespace K91
open PySem Mi Pl Er
theorem c_is_list (v : PyData) (n : Nat) (h : nd v = true) : cl gl Ps (n + 1) 0 [.val v] = some (.val (.bool (seqD v).isSome), [none]) := by
  rw [r_is_list]
  cases v <;> simp_all [s_is_list, seqD]
theorem lexE_int (x y : Ent) : decide ((x.1 : Int) < y.1 ∨ ((x.1 : Int) = y.1 ∧ (x.2.1 : Int) < y.2.1)) = lexE (x, y) := by
  unfold lexE
  by_cases h : x.1 < y.1 ∨ (x.1 = y.1 ∧ x.2.1 < y.2.1)
  · rw [decide_eq_true h, decide_eq_true (by omega)]
  · rw [decide_eq_false h, decide_eq_false (by omega)]
theorem c_table_is_right (e : E) (he : ok e) (hs bs ds : List Int) (lb : bs.length = e.am.length) (ld : ds.length = e.am.length) (v : PyData) (hv : nd v = true) (hz : ∀ vs, seqD v = some vs → vs.length ≤ sizeLine) (n : Nat) :
    cl gl Ps (n + 5) 15 [.val (eD e), .val (plD hs bs ds), .val v] = some (.val (.bool (isTab e.am.length (gvR e.am bs) (tkR e.am ds) v)), [none, none, none]) := by
  have h1 := he.l1; have h2 := he.l2
  have lg := gv_len lb
  have lt := tk_len ld
  have cil := c_is_list v (n + 3) hv
  have cgt := c_gives_and_takes e he hs bs ds lb ld (n + 3)
  rw [r_table_is_right]
  cases hq : seqD v with
  | none =>
    have e0 : isTab e.am.length (gvR e.am bs) (tkR e.am ds) v = false := by unfold isTab; simp only [hq]
    simp [s_table_is_right, cil, hq, e0]
  | some vs =>
    have hzv := hz vs hq
    have hv2 : v = .list vs ∨ v = .tuple vs := by
      unfold seqD at hq
      split at hq <;> cases hq
      · exact .inl rfl
      · exact .inr rfl
    have hnd : nds vs = true := by rcases hv2 with rfl | rfl <;> simpa using hv
    rw [hq] at cil
    have hr : rngE [.val (.int e.am.length)] = some ((List.range e.am.length).map fun i => PyData.int (i : Nat)) := rngE_nat (by omega)
    clear hz hq
    rcases hv2 with rfl | rfl
    all_goals
      simp [s_table_is_right, cil, plainAt]
      generalize hF : lcGo _ _ _ = F
      have hF := lc_map hF (fun d => O.val (.bool (entOf e.am.length d).isSome)) (by
        intro d hd
        simp [lcF, c_entry_is_right d e.am.length n (nds_mem hnd d hd)])
      subst hF
      simp [hzv, ← entsOf_isSome]
      cases hT : entsOf e.am.length vs with
      | none =>
        rw [isTab_no rfl hT]
        simp
      | some T =>
        rw [isTab_yes rfl hT]
        obtain ⟨rfl, hTe⟩ := entsOf_some hT
        rw [List.length_map] at hzv
        have zz : (T.zip (T.drop 1)).length ≤ sizeLine := by rw [List.length_zip]; omega
        simp only [List.length_zip, List.length_drop] at zz
        have zz2 : T.length ≤ sizeLine + 1 := by omega
        have zd : zip2 (T.map entD) ((T.map entD).drop 1) = (T.zip (T.drop 1)).map fun p => .tuple [entD p.1, entD p.2] := by rw [← List.map_drop, zip2_map]
        simp [-List.map_drop, -List.drop_one, cutO, zipE_2, zd, plainAt]
        generalize hF : lcGo _ _ _ = F
        have hF := lc_enc hF rfl (fun p => O.val (.bool (lexE p))) (by
          rintro ⟨x, y⟩ hp
          rw [← lexE_int]
          simp [-Bool.decide_or, -Bool.decide_and, lcF, cutO, entD])
        subst hF
        simp [-List.drop_one, zz, zz2]
        have e0 : tabR e.am.length (gvR e.am bs) (tkR e.am ds) T = ((T.zip (T.drop 1)).all lexE && (List.range e.am.length).all fun k => decide (rsum k T = (gvR e.am bs).getD k 0) && decide (csum k T = (tkR e.am ds).getD k 0)) := by unfold tabR; rw [List.drop_one]
        rw [e0]
        generalize hB : ((List.range e.am.length).all fun k => decide (rsum k T = (gvR e.am bs).getD k 0) && decide (csum k T = (tkR e.am ds).getD k 0)) = b
        by_cases hl : (T.zip (T.drop 1)).all lexE = true
        · simp [-List.drop_one, hl, cgt, hr]
          have zr : ∀ p : Ent → Bool, (T.filter p).length ≤ sizeLine := fun p => Nat.le_trans (List.length_filter_le _ _) hzv
          have k1 : ∀ (w2 w3 w5 w6 x8 : Option O) (k : Nat), lcGo (lcF gl (cl gl Ps (n + 4)) ((Mi.T.var 7).idx (Mi.T.con (PyData.int 2))) (G.nm 7) (Mi.T.cmp Cop.eq ((Mi.T.var 7).idx (Mi.T.con (PyData.int 0))) (Mi.T.var 4)) [7]) (T.map entD) [some (.val (eD e)), some (.val (plD hs bs ds)), w2, w3, some (.val (.int k)), w5, w6, none, x8] = some ((T.filter fun e => decide (e.1 = k)).map fun e => iO2 e.2.2, [some (.val (eD e)), some (.val (plD hs bs ds)), w2, w3, some (.val (.int k)), w5, w6, none, x8]) := by
            intro w2 w3 w5 w6 x8 k
            refine lcGo_filt _ _ ?_
            rintro ⟨a, b, c⟩ he2
            by_cases hk : a = k
            · simp [lcF, entD, hk]
            · simp [lcF, entD, hk, show ¬ (a : Int) = k by omega]
          have k2 : ∀ (w2 w3 w5 w6 x8 : Option O) (k : Nat), lcGo (lcF gl (cl gl Ps (n + 4)) ((Mi.T.var 7).idx (Mi.T.con (PyData.int 2))) (G.nm 7) (Mi.T.cmp Cop.eq ((Mi.T.var 7).idx (Mi.T.con (PyData.int 1))) (Mi.T.var 4)) [7]) (T.map entD) [some (.val (eD e)), some (.val (plD hs bs ds)), w2, w3, some (.val (.int k)), w5, w6, none, x8] = some ((T.filter fun e => decide (e.2.1 = k)).map fun e => iO2 e.2.2, [some (.val (eD e)), some (.val (plD hs bs ds)), w2, w3, some (.val (.int k)), w5, w6, none, x8]) := by
            intro w2 w3 w5 w6 x8 k
            refine lcGo_filt _ _ ?_
            rintro ⟨a, b, c⟩ he2
            by_cases hk : b = k
            · simp [lcF, entD, hk]
            · simp [lcF, entD, hk, show ¬ (b : Int) = k by omega]
          generalize hF : forGo _ _ _ _ = F
          obtain ⟨r1, rfl, x4, rfl⟩ := for_chk hF rfl (o := .val (.bool false)) (fun k => decide (rsum k T = (gvR e.am bs).getD k 0) && decide (csum k T = (tkR e.am ds).getD k 0)) (fun r => ∃ x4, r = [some (.val (eD e)), some (.val (plD hs bs ds)), some _, some (.val (.int e.am.length)), x4, some (.lst ((gvR e.am bs).map iO2)), some (.lst ((tkR e.am ds).map iO2)), none, none]) ⟨none, rfl⟩ (by
            rintro k hk r ⟨x4, rfl⟩
            rw [List.mem_range] at hk
            obtain ⟨g, hg⟩ := get_some (xs := gvR e.am bs) (i := k) (by omega)
            obtain ⟨t, ht⟩ := get_some (xs := tkR e.am ds) (i := k) (by omega)
            have gg : (gvR e.am bs).getD k 0 = g := by rw [List.getD_eq_getElem?_getD, hg]; rfl
            have gt : (tkR e.am ds).getD k 0 = t := by rw [List.getD_eq_getElem?_getD, ht]; rfl
            rw [gg, gt]
            by_cases q1 : rsum k T = g
            · have q1' := q1
              unfold rsum at q1'
              by_cases q2 : csum k T = t
              · have q2' := q2
                unfold csum at q2'
                simp [zr, plainAt, k1, k2, q1', q2', hg, ht, q1, q2]
              · have q2' := q2
                unfold csum at q2'
                simp [zr, plainAt, k1, k2, q1', q2', hg, ht, q1, q2]
            · have q1' := q1
              unfold rsum at q1'
              simp [zr, plainAt, k1, q1', hg, q1])
          rw [hB]
          cases b <;> simp
        · simp [-List.drop_one, hl]
end K91

end
section
set_option maxHeartbeats 4000000
/-! K91G: the doors of tables, lines. -/
namespace K91
open PySem Mi Pl Er
theorem c_line_of (e : E) (he : ok e) (n : Nat) : cl gl Ps (n + 1) 17 [.val (eD e)] = some (.lst ((lnR e).map iO2), [none]) := by
  have h2 := he.l2; have h3 := he.lw
  have z : e.wy.length ≤ sizeLine := by unfold sizeLine; omega
  have hr : rngE [.val (.int e.wy.length)] = some ((List.range e.wy.length).map fun i => PyData.int (i : Nat)) := rngE_nat (by omega)
  rw [r_line_of]
  simp [s_line_of, eD, hr, plainAt]
  generalize hF : lcGo _ _ _ = F
  have hF := lc_enc hF rfl (fun k => iO2 (e.am.take (k + 1)).sum) (by
    intro k hk
    simp [lcF, cutO, ← List.map_take])
  subst hF
  simp [z, lnR]
theorem c_shifted_cost (e : E) (he : ok e) (x : Int) (n : Nat) : cl gl Ps (n + 2) 18 [.val (eD e), .val (.int x)] = some (.val (.int (shR e x)), [none, none]) := by
  have h2 := he.l2; have h3 := he.lw
  have z : (lnR e).length ≤ sizeLine := by rw [ln_len]; unfold sizeLine; omega
  rw [r_shifted_cost]
  simp [s_shifted_cost, c_line_of e he n, plainAt]
  generalize hF : lcGo _ _ _ = F
  have hF := lc_enc hF rfl (fun y => iO2 (y + x)) (by
    intro y hy
    simp [lcF])
  subst hF
  simp [z, eD, plainAt]
  have hz : zipE [.val (wyD e), .lst ((lnR e).map fun y => iO2 (y + x))] = some ((e.wy.zip ((lnR e).map fun y => y + x)).map fun p => .tuple [wD p.1, .int p.2]) := by
    rw [zipE_2 (x := e.wy.map wD) (y := ((lnR e).map fun y => y + x).map PyData.int) rfl (by rw [List.map_map]; simp), zip2_map]
  simp [hz, plainAt]
  generalize hF : lcGo _ _ _ = F
  have hF := lc_enc hF rfl (fun p => O.val (.int (hl p.1 p.2))) (by
    rintro ⟨⟨w1, w2⟩, m⟩ hi
    have q := he.wy _ (List.of_mem_zip hi).1
    simp only at q
    have q1 : ∀ j, mulOk w1 j = true := fun j => mulOk_l (by omega) (by omega)
    have q2 : ∀ j, mulOk w2 j = true := fun j => mulOk_l (by omega) (by omega)
    simp [lcF, wD, binD_mul, q1, q2, hl])
  subst hF
  have z2 : (e.wy.zip ((lnR e).map fun y => y + x)).length ≤ sizeLine := by rw [List.length_zip]; unfold sizeLine; omega
  simp only [List.length_zip, List.length_map] at z2
  simp [z2, shR]
theorem c_line (e : E) (he : ok e) (n : Nat) : cl gl Ps (n + 6) 23 [.val (eD e)] = some (.lst ((lnR e).map iO2), [none]) := by
  rw [r_line]
  simp [s_line, c_check_earth e he, c_line_of e he (n + 4)]
theorem c_balance (e : E) (he : ok e) (n : Nat) : cl gl Ps (n + 6) 24 [.val (eD e)] = some (.val (.int (balR e)), [none]) := by
  have h2 := he.l2; have h3 := he.lw
  have z : (lnR e).length ≤ sizeLine := by rw [ln_len]; unfold sizeLine; omega
  rw [r_balance]
  simp [s_balance, c_check_earth e he, c_line_of e he (n + 4), plainAt]
  generalize hF : lcGo _ _ _ = F
  have hF := lc_enc hF rfl (fun y => O.val (pD (shR e (0 - y), 0 - y))) (by
    intro y hy
    have := c_shifted_cost e he (0 - y) (n + 3)
    simp at this
    simp [lcF, this, pD])
  subst hF
  have hv : vals ((lnR e).map fun y => O.val (pD (shR e (0 - y), 0 - y))) = some ((balL e).map pD) := by
    unfold balL; rw [List.map_map]; exact vals_mapf (fun y => pD (shR e (0 - y), 0 - y)) _
  have hs := biE_sorted hv (srt_rows (n := 2) (by decide) (rows_p _) (by rw [List.length_map]; unfold balL; rw [List.length_map]; exact z))
  have hvk : ∀ d ∈ ((balL e).map pD).mergeSort leD, vok d := fun d hd => by
    rw [List.mem_mergeSort] at hd
    obtain ⟨p, _, rfl⟩ := List.mem_map.mp hd
    exact vok_pD
  simp only [Int.zero_sub] at hs
  simp [z, hs, cmpD_neN hvk]
  unfold balR
  cases hb : balL e with
  | nil => simp
  | cons p ps =>
    have hh := sort_head p ps
    have he0 : (((p :: ps).map pD).mergeSort leD).isEmpty = false := by
      cases hm : ((p :: ps).map pD).mergeSort leD with
      | nil => rw [hm] at hh; cases hh
      | cons _ _ => rfl
    have hg : L2.atI ((((p :: ps).map pD).mergeSort leD).map O.val) 0 = some (.val (pD (minP p ps))) := by
      have := atI_nat (xs := (((p :: ps).map pD).mergeSort leD).map O.val) (k := 0)
      simp only [Int.natCast_zero] at this
      rw [this, List.getElem?_map, hh]; rfl
    simp [-List.map_cons, he0, hg]
    simp [pD]
theorem plan_parts {e : E} {hs bs ds : List Int} (he : ok e) (h : isPlanR e hs bs ds = true) : hs.length + 1 = e.am.length ∧ bs.length = e.am.length ∧ ds.length = e.am.length ∧ nn bs ∧ nn ds ∧ kept (·.1) e.tp bs = true ∧ kept (·.2) e.tp ds = true ∧ hauls 0 e.am bs ds = hs ++ [0] := by
  have lt := he.lt
  simp only [isPlanR, Bool.and_eq_true, decide_eq_true_eq] at h
  exact ⟨h.1.1.1.1.1, h.1.1.1.1.2, h.1.1.1.2, kept_nn h.1.1.2 (by omega), kept_nn h.1.2 (by omega), h.1.1.2, h.1.2, h.2⟩
theorem c_table (e : E) (he : ok e) (hs bs ds : List Int) (n : Nat) (h : isPlanR e hs bs ds = true) : cl gl Ps (n + 7) 20 [.val (eD e), .val (plD hs bs ds)] = some (.lst (((tolR e.am bs ds).map entD).map O.val), [none, none]) := by
  obtain ⟨l1, l2, l3, n1, n2, _⟩ := plan_parts he h
  rw [r_table]
  simp [-List.map_map, s_table, c_check_plan e he hs bs ds n h, c_table_of e he hs bs ds l2 l3 n1 n2 (n + 4)]
theorem c_is_table (e : E) (he : ok e) (hs bs ds : List Int) (v : PyData) (n : Nat) (h : isPlanR e hs bs ds = true) (hv : nd v = true) (hz : ∀ vs, seqD v = some vs → vs.length ≤ sizeLine) : cl gl Ps (n + 7) 21 [.val (eD e), .val (plD hs bs ds), .val v] = some (.val (.bool (isTab e.am.length (gvR e.am bs) (tkR e.am ds) v)), [none, none, none]) := by
  obtain ⟨l1, l2, l3, n1, n2, _⟩ := plan_parts he h
  rw [r_is_table]
  simp [s_is_table, c_check_plan e he hs bs ds n h, c_table_is_right e he hs bs ds l2 l3 v hv hz (n + 1)]
theorem c_table_cost_no (e : E) (he : ok e) (hs bs ds : List Int) (v : PyData) (n : Nat) (h : isPlanR e hs bs ds = true) (hv : nd v = true) (hz : ∀ vs, seqD v = some vs → vs.length ≤ sizeLine) (hn : isTab e.am.length (gvR e.am bs) (tkR e.am ds) v = false) : cl gl Ps (n + 7) 22 [.val (eD e), .val (plD hs bs ds), .val v] = some (.val .none, [none, none, none]) := by
  obtain ⟨l1, l2, l3, n1, n2, _⟩ := plan_parts he h
  rw [r_table_cost]
  simp [s_table_cost, c_check_plan e he hs bs ds n h, c_table_is_right e he hs bs ds l2 l3 v hv hz (n + 1), hn]
theorem c_table_cost (e : E) (he : ok e) (hs bs ds : List Int) (v : PyData) (n : Nat) (h : isPlanR e hs bs ds = true) (hv : nd v = true) (hz : ∀ vs, seqD v = some vs → vs.length ≤ sizeLine) (hy : isTab e.am.length (gvR e.am bs) (tkR e.am ds) v = true) {T : List Ent} (hT : seqD v = some (T.map entD)) : cl gl Ps (n + 7) 22 [.val (eD e), .val (plD hs bs ds), .val v] = some (.val (.int (tcost e.wy T)), [none, none, none]) := by
  obtain ⟨l1, l2, l3, n1, n2, _⟩ := plan_parts he h
  have zT := hz _ hT
  rw [List.length_map] at zT
  have ctr := c_table_is_right e he hs bs ds l2 l3 v hv hz (n + 1)
  rw [hy] at ctr
  have cw := fun i j : Nat => c_way_of e he i j (n + 5)
  rw [r_table_cost]
  rcases seq_cases hT with rfl | rfl
  all_goals
    simp [s_table_cost, c_check_plan e he hs bs ds n h, ctr, plainAt]
    generalize hF : lcGo _ _ _ = F
    have hF := lc_enc hF rfl (fun t => iO2 (wayR e.wy t.1 t.2.1 * t.2.2)) (by
      rintro ⟨i, j, m⟩ hi
      have b := way_bd he i j
      simp [lcF, entD, cw, binD_mul (mulOk_l (i := wayR e.wy i j) (j := m) (by omega) (by omega))])
    subst hF
    simp [zT, tcost]
end K91

end
section
set_option maxHeartbeats 4000000
/-! ErT3: plans made; sums. -/
namespace Pl
open PySem L2 Mi
section
variable {α σ : Type} {f : D → En → Option (Option O × En)} {r : En} {enc : α → D} {F : Option (List O × En)} {DS : List D} {ys : List α}
theorem lcGo_stY (env : σ → En → Prop) (R : List α → List O → Prop) (h0 : R [] []) : ∀ {ys : List α} {s : σ} {r : En}, env s r →
    (∀ y ∈ ys, ∀ s r, env s r → ∃ o s1 r1, f (enc y) r = some (some o, r1) ∧ env s1 r1 ∧ ∀ ys' os, R ys' os → R (y :: ys') (o :: os)) → ∃ os s1 r1, lcGo f (ys.map enc) r = some (os, r1) ∧ env s1 r1 ∧ R ys os
  | [], s, r, h, _ => ⟨[], s, r, rfl, h, h0⟩
  | y :: ys, s, r, h, H => by
    obtain ⟨o, s1, r1, e1, p1, q1⟩ := H y (by simp) s r h
    obtain ⟨os, s2, r2, e2, p2, q2⟩ := lcGo_stY env R h0 (ys := ys) p1 fun x hx => H x (by simp [hx])
    refine ⟨o :: os, s2, r2, ?_, p2, q1 ys os q2⟩
    rw [List.map_cons, lcGo_cons, e1]
    simp only [kb_some]
    rw [e2]
    rfl
theorem lc_stY (hF : lcGo f DS r = F) (hD : DS = ys.map enc) (env : σ → En → Prop) (R : List α → List O → Prop) (h0 : R [] []) {s : σ} (hs : env s r)
    (H : ∀ y ∈ ys, ∀ s r, env s r → ∃ o s1 r1, f (enc y) r = some (some o, r1) ∧ env s1 r1 ∧ ∀ ys' os, R ys' os → R (y :: ys') (o :: os)) : ∃ os s1 r1, F = some (os, r1) ∧ env s1 r1 ∧ R ys os := by
  subst hF; subst hD; exact lcGo_stY env R h0 hs H
end
end Pl
namespace Er
open PySem L2 Mi Pl
theorem kept_cons {o : Option Int × Option Int → Option Int} {t : Option Int × Option Int} {tp : List (Option Int × Option Int)} {x : Int} {xs : List Int} : kept o (t :: tp) (x :: xs) = true ↔ (0 ≤ x ∧ ((o t).isSome = true ∨ x = 0)) ∧ kept o tp xs = true := by
  simp only [kept, List.zip_cons_cons, List.all_cons, Bool.and_eq_true, decide_eq_true_eq, Bool.or_eq_true]
theorem kept_set {o : Option Int × Option Int → Option Int} : ∀ {tp : List (Option Int × Option Int)} {xs : List Int} {i : Nat} {t : Option Int × Option Int} {y : Int}, kept o tp xs = true → tp[i]? = some t → (o t).isSome = true → 0 ≤ y → kept o tp (xs.set i y) = true
  | [], _, _, _, _, _, h, _, _ => by simp at h
  | _ :: _, [], _, _, _, h, _, _, _ => by simpa using h
  | t' :: tp, x :: xs, 0, t, y, h, h2, h3, h4 => by
    rw [List.set_cons_zero, kept_cons]
    rw [kept_cons] at h
    simp at h2
    subst h2
    exact ⟨⟨h4, .inl h3⟩, h.2⟩
  | t' :: tp, x :: xs, i + 1, t, y, h, h2, h3, h4 => by
    rw [List.set_cons_succ, kept_cons]
    rw [kept_cons] at h
    exact ⟨h.1, kept_set h.2 (by simpa using h2) h3 h4⟩
theorem sum_set : ∀ {xs : List Int} {i : Nat} {y : Int}, i < xs.length → (xs.set i (xs.getD i 0 + y)).sum = xs.sum + y
  | [], _, _, h => by simp at h
  | x :: xs, 0, y, _ => by simp; omega
  | x :: xs, i + 1, y, h => by
    have ih := sum_set (xs := xs) (i := i) (y := y) (by simpa using h)
    simp only [List.set_cons_succ, List.sum_cons, List.getD_cons_succ]
    omega
structure KI (am : List Int) (tp : List (Option Int × Option Int)) (s : Int × List Int × List Int) : Prop where
  lb : s.2.1.length = am.length
  ld : s.2.2.length = am.length
  kb : kept (·.1) tp s.2.1 = true
  kd : kept (·.2) tp s.2.2 = true
  to : tot am s.2.1 s.2.2 = s.1
theorem estep_KI {am : List Int} {tp : List (Option Int × Option Int)} {s : Int × List Int × List Int} {p : (Option Int × Option Int) × Nat} (ht : tp.length = am.length) (hp : tp[p.2]? = some p.1) (h : KI am tp s) : KI am tp (estep s p) := by
  have hi := (List.getElem?_eq_some_iff.mp hp).1
  obtain ⟨h1, h2, h3, h4, h5⟩ := h
  have nb := kept_nn h3 (by omega)
  have nd := kept_nn h4 (by omega)
  unfold estep
  split
  · rename_i hc
    refine ⟨h1, by simpa using h2, h3, kept_set h4 hp hc.2 ?_, ?_⟩
    · have : 0 ≤ s.2.2.getD p.2 0 := by
        rw [List.getD_eq_getElem?_getD]
        cases e : s.2.2[p.2]? with
        | none => simp
        | some x => exact nd x (List.mem_of_getElem? e)
      omega
    · unfold tot at h5 ⊢
      simp only
      rw [sum_set (by omega)]
      omega
  · split
    · rename_i hc
      refine ⟨by simpa using h1, h2, kept_set h3 hp hc.2 ?_, h4, ?_⟩
      · have : 0 ≤ s.2.1.getD p.2 0 := by
          rw [List.getD_eq_getElem?_getD]
          cases e : s.2.1[p.2]? with
          | none => simp
          | some x => exact nb x (List.mem_of_getElem? e)
        omega
      · unfold tot at h5 ⊢
        simp only
        rw [show s.2.1.getD p.2 0 - s.1 = s.2.1.getD p.2 0 + -s.1 by omega, sum_set (by omega)]
        omega
    · exact ⟨h1, h2, h3, h4, h5⟩
theorem estep_KIs {am : List Int} {tp : List (Option Int × Option Int)} (ht : tp.length = am.length) : ∀ {ps : List ((Option Int × Option Int) × Nat)} {s : Int × List Int × List Int}, (∀ p ∈ ps, tp[p.2]? = some p.1) → KI am tp s → KI am tp (ps.foldl estep s)
  | [], _, _, h => h
  | p :: ps, s, hp, h => estep_KIs ht (ps := ps) (fun q hq => hp q (by simp [hq])) (estep_KI ht (hp p (by simp)) h)
theorem zipIdx_get {α : Type} {xs : List α} : ∀ p ∈ xs.zipIdx 0, xs[p.2]? = some p.1 := fun p hp => by
  obtain ⟨x, i⟩ := p
  rw [List.mem_zipIdx_iff_getElem?] at hp
  simpa using hp
/-- what a plan is when nothing is left -/
theorem plan_of {e : E} {B D : List Int} (h1 : 1 ≤ e.am.length) (h : KI e.am e.tp (0, B, D)) : isPlanR e (hauls 0 e.am B D).dropLast B D = true := by
  obtain ⟨lb, ld, kb, kd, to⟩ := h
  simp only at lb ld kb kd to
  have lh := hauls_len (l := 0) lb ld
  have hne : e.am ≠ [] := fun h => by rw [h] at h1; simp at h1
  have hi := (hauls_iff (hs := (hauls 0 e.am B D).dropLast) (l := 0) lb ld hne).mpr ⟨rfl, by rw [to]; rfl⟩
  unfold isPlanR
  rw [decide_eq_true lb, decide_eq_true ld, kb, kd, decide_eq_true hi, decide_eq_true (show (hauls 0 e.am B D).dropLast.length + 1 = e.am.length by rw [List.length_dropLast]; omega)]
  rfl
def tipsR (e : E) (bs ds : List Int) : Int := ((e.tp.zip (bs.zip ds)).map fun p => tc p.1.1 p.2.1 + tc p.1.2 p.2.2).sum
theorem costR_eq {e : E} {hs bs ds : List Int} : costR e hs bs ds = hcost e.wy hs + tipsR e bs ds := rfl
/-- the ways between two places, one by one -/
theorem way_range {α : Type} (f : α → Int) {wy : List α} {i n : Nat} (h : i + n ≤ wy.length) (d : α) : (((wy.drop i).take n).map f).sum = ((List.range n).map fun k => f (wy.getD (i + k) d)).sum := by
  induction n with
  | zero => simp
  | succ n ih =>
    rw [List.range_succ, List.map_append, List.sum_append, ← ih (by omega)]
    rw [List.take_add_one]
    have : (wy.drop i)[n]? = some (wy.getD (i + n) d) := by
      rw [List.getElem?_drop, List.getD_eq_getElem?_getD, List.getElem?_eq_getElem (by omega)]
      rfl
    rw [this]
    simp
theorem fold_add {α : Type} (f : α → Int) : ∀ (xs : List α) (s : Int), xs.foldl (fun s x => s + f x) s = s + (xs.map f).sum
  | [], s => by simp
  | x :: xs, s => by rw [List.foldl_cons, fold_add f xs, List.map_cons, List.sum_cons]; omega
theorem sum_mul (m : Int) : ∀ (xs : List Int), (xs.map fun x => m * x).sum = m * xs.sum
  | [] => by simp
  | x :: xs => by rw [List.map_cons, List.sum_cons, List.sum_cons, sum_mul m xs, Int.mul_add]
theorem entD_vok {e : Ent} : vok (entD e) := ⟨rfl, by simp [entD, PyData.depth, PyData.depthAll]⟩
end Er
namespace Er
open PySem L2 Mi Pl
theorem nn_sum : ∀ {ys : List Int}, nn ys → 0 ≤ ys.sum
  | [], _ => by simp
  | y :: ys, h => by
    rw [nn_cons] at h
    have := nn_sum h.2
    rw [List.sum_cons]; omega
theorem list_choose {P : Ent → Prop} : ∀ {L : List PyData}, (∀ d ∈ L, ∃ e, P e ∧ d = entD e) → ∃ T : List Ent, L = T.map entD ∧ ∀ e ∈ T, P e
  | [], _ => ⟨[], rfl, by simp⟩
  | d :: L, h => by
    obtain ⟨e, h1, rfl⟩ := h d (by simp)
    obtain ⟨T, rfl, h2⟩ := list_choose (L := L) fun x hx => h x (by simp [hx])
    exact ⟨e :: T, rfl, fun x hx => by
      rcases List.mem_cons.mp hx with rfl | hx
      · exact h1
      · exact h2 x hx⟩
theorem le_sum : ∀ {ys : List Int}, nn ys → ∀ y ∈ ys, y ≤ ys.sum
  | y :: ys, h, x, hx => by
    rw [nn_cons] at h
    have := nn_sum h.2
    rw [List.sum_cons]
    rcases List.mem_cons.mp hx with rfl | hx
    · omega
    · have := le_sum h.2 x hx; omega
theorem tol_NW {am bs ds : List Int} (nb : nn bs) (nd : nn ds) {M : Int} (hM : ∀ t ∈ tkR am ds, t ≤ M) : NW (gvR am bs) (tkR am ds) 0 0 M (tolR am bs ds) := nw_NW (gv_nn nb) (tk_nn nd) hM
theorem tol_mono {am bs ds : List Int} (nb : nn bs) (nd : nn ds) : (tolR am bs ds).Pairwise mono := (tol_NW nb nd (le_sum (tk_nn nd))).mono
theorem tk_le {am ds : List Int} {A D : Int} (h1 : ∀ a ∈ am, -A ≤ a ∧ a ≤ A) (h2 : ∀ d ∈ ds, d ≤ D) (hA : 0 ≤ A) : ∀ t ∈ tkR am ds, t ≤ A + D := fun t ht => by
  obtain ⟨p, hp, rfl⟩ := List.mem_map.mp ht
  have := h1 p.1 (List.of_mem_zip hp).1
  have := h2 p.2 (List.of_mem_zip hp).2
  omega
theorem gv_le {am ds : List Int} {A D : Int} (h1 : ∀ a ∈ am, -A ≤ a ∧ a ≤ A) (h2 : ∀ d ∈ ds, d ≤ D) (hA : 0 ≤ A) : ∀ t ∈ gvR am ds, t ≤ A + D := fun t ht => by
  obtain ⟨p, hp, rfl⟩ := List.mem_map.mp ht
  have := h1 p.1 (List.of_mem_zip hp).1
  have := h2 p.2 (List.of_mem_zip hp).2
  omega
end Er
namespace Pl
open PySem L2 Mi
section
variable {g : G} {f : En → Option (Fl × En)} {r : En} {F : Option (Fl × En)} {DS : List D}
theorem forGo_rng (env : Nat → En → Prop) : ∀ {n k : Nat} {r : En}, env k r → (∀ i r, i < k + n → env i r → ∃ r1, kb (bnd g (.val (.int (i : Nat))) r) (k := ⟨f⟩) = some (.nx, r1) ∧ env (i + 1) r1) →
    ∃ r1, forGo g f ((List.range' k n).map fun i => PyData.int (i : Nat)) r = some (.nx, r1) ∧ env (k + n) r1
  | 0, k, r, h, _ => ⟨r, rfl, h⟩
  | n + 1, k, r, h, H => by
    obtain ⟨r1, e1, p1⟩ := H k r (by omega) h
    rw [List.range'_succ, List.map_cons, forGo_cons, e1]
    obtain ⟨r2, e2, p2⟩ := forGo_rng env (n := n) (k := k + 1) p1 fun i r hi => H i r (by omega)
    exact ⟨r2, e2, by rwa [show k + 1 + n = k + (n + 1) by omega] at p2⟩
theorem for_rng {n : Nat} (hF : forGo g f DS r = F) (hD : DS = (List.range n).map fun i => PyData.int (i : Nat)) (env : Nat → En → Prop) (hs : env 0 r) (h : ∀ i r, i < n → env i r → ∃ r1, kb (bnd g (.val (.int (i : Nat))) r) (k := ⟨f⟩) = some (.nx, r1) ∧ env (i + 1) r1) :
    ∃ r1, F = some (.nx, r1) ∧ env n r1 := by
  subst hF; subst hD
  have := forGo_rng (g := g) (f := f) env (n := n) (k := 0) hs fun i r hi => h i r (by omega)
  rwa [Nat.zero_add, ← List.range_eq_range'] at this
theorem for_rngH {n : Nat} (hF : forGo g f DS r = F) (hD : DS = (List.range n).map fun i => PyData.int (i : Nat)) (env : Nat → En → Prop) (hs : env 0 r) (h : ∀ i r, i < n → env i r → ∀ x, x = kb (bnd g (.val (.int (i : Nat))) r) (k := ⟨f⟩) → ∃ r1, x = some (.nx, r1) ∧ env (i + 1) r1) :
    ∃ r1, F = some (.nx, r1) ∧ env n r1 := for_rng hF hD env hs fun i r hi he => h i r hi he _ rfl
end
theorem for_foldH {α σ : Type} {g : G} {f : En → Option (Fl × En)} {r : En} {enc : α → D} {F : Option (Fl × En)} {DS : List D} {ys : List α} (hF : forGo g f DS r = F) (hD : DS = ys.map enc) (env : σ → En → Prop) (step : σ → α → σ) {s : σ} (hs : env s r) (h : ∀ y ∈ ys, ∀ s r, env s r → ∀ x, x = kb (bnd g (.val (enc y)) r) (k := ⟨f⟩) → ∃ r1, x = some (.nx, r1) ∧ env (step s y) r1) :
    ∃ r1, F = some (.nx, r1) ∧ env (ys.foldl step s) r1 := for_fold hF hD env step hs fun y hy s r he => h y hy s r he _ rfl
@[simp] theorem revO_vl {ds : List PyData} : revO (.val (.list ds)) = some (.lst (ds.reverse.map O.val)) := (rfl)
theorem lrngE_nat {n : Nat} (h : n ≤ 2 ^ 24) : lrngE 0 (n : Int) = some (.lst ((List.range n).map fun i => O.val (.int (i : Nat)))) := by
  unfold lrngE small
  rw [decide_eq_true (show -(2 ^ 62 : Int) ≤ 0 by decide), decide_eq_true (show (0 : Int) < 2 ^ 62 by decide), decide_eq_true (show -(2 ^ 62 : Int) ≤ n by omega), decide_eq_true (show (n : Int) < 2 ^ 62 by omega), decide_eq_true (show ((n : Int) - 0).toNat ≤ 2 ^ 24 by omega), rngI_one, List.map_map]
  rfl
end Pl

end
section
set_option maxHeartbeats 4000000
/-! K91H: the law's plan, ends, costs. -/
namespace K91
open PySem Mi Pl Er
def rowK (o : Option Int × Option Int → Option Int) (tp : List (Option Int × Option Int)) (os : List O) : Prop := ∃ bs : List Int, os = (bs.map PyData.int).map O.val ∧ bs.length = tp.length ∧ kept o tp bs = true ∧ ∀ b ∈ bs, b.natAbs ≤ 2
theorem rowK_nil {o : Option Int × Option Int → Option Int} : rowK o [] [] := ⟨[], rfl, rfl, by simp [kept], by simp⟩
theorem rowK_cons {o : Option Int × Option Int → Option Int} {t : Option Int × Option Int} {tp : List (Option Int × Option Int)} {os : List O} {b : Int} (h0 : 0 ≤ b ∧ b ≤ 2) (h1 : (o t).isSome = true ∨ b = 0) (h : rowK o tp os) : rowK o (t :: tp) (iO b :: os) := by
  obtain ⟨bs, rfl, h2, h3, h4⟩ := h
  exact ⟨b :: bs, rfl, by simp [h2], kept_cons.mpr ⟨⟨h0.1, h1⟩, h3⟩, fun x hx => by
    rcases List.mem_cons.mp hx with rfl | hx
    · omega
    · exact h4 x hx⟩
theorem c__law_plan (e : E) (he : ok e) (p : Int × Int) (hp : pOk p) (n : Nat) : ∃ res q, pOk q ∧ cl gl Ps (n + 2) 31 [potO p, .val (eD e)] = some (.val res, [some (potO q), none]) ∧ (res = .none ∨ ∃ hs bs ds, res = plD hs bs ds ∧ isPlanR e hs bs ds = true ∧ (∀ x ∈ hs, x.natAbs ≤ 2 ^ 40) ∧ (∀ x ∈ bs, x.natAbs ≤ 2 ^ 38) ∧ ∀ x ∈ ds, x.natAbs ≤ 2 ^ 38) := by
  have h1 := he.l1; have h2 := he.l2; have h4 := he.lt
  have z : e.tp.length ≤ sizeLine := by unfold sizeLine; omega
  have dr := fun (p : Int × Int) (hp : pOk p) (m : Int) (h1 : 1 ≤ m) (h2 : m < 1073741824) => c__law_draw p hp m h1 h2 n
  have key : ∀ x, x = cl gl Ps (n + 2) 31 [potO p, .val (eD e)] → ∃ res q, pOk q ∧ x = some (.val res, [some (potO q), none]) ∧ (res = .none ∨ ∃ hs bs ds, res = plD hs bs ds ∧ isPlanR e hs bs ds = true ∧ (∀ x ∈ hs, x.natAbs ≤ 2 ^ 40) ∧ (∀ x ∈ bs, x.natAbs ≤ 2 ^ 38) ∧ ∀ x ∈ ds, x.natAbs ≤ 2 ^ 38) := by
    intro x hx
    rw [r__law_plan] at hx
    simp [s__law_plan, eD, plainAt] at hx
    generalize hF : lcGo _ _ _ = F at hx
    obtain ⟨os, p1, r1', e1, ⟨ok1, rfl⟩, bs, rfl, lb, kb, bb⟩ := lc_stY hF rfl (fun p r => pOk p ∧ r = [some (potO p), some (.val (eD e)), none, none, none, none, none, none, none])
      (rowK Prod.fst) rowK_nil ⟨hp, rfl⟩ (by
        rintro ⟨t1, t2⟩ hi s r ⟨hs, rfl⟩
        have b := dg_ok (p := s) (m := 3) (by omega)
        cases t1 with
        | none => exact ⟨iO 0, s, _, by simp [lcF, tD, od] <;> rfl, ⟨hs, rfl⟩, fun ys' os h => rowK_cons (by omega) (.inr rfl) h⟩
        | some t => exact ⟨iO (dg s 3), nx s 3, _, by simp [lcF, tD, od, dr s hs 3 (by omega) (by omega)] <;> rfl, ⟨nx_ok hs (by omega), rfl⟩, fun ys' os h => rowK_cons (by omega) (.inl rfl) h⟩)
    rw [e1] at hx
    clear e1 hF
    simp [-List.map_map, lb, z, plainAt, eD] at hx
    generalize hF : lcGo _ _ _ = F at hx
    obtain ⟨os, p2, r1', e1, ⟨ok2, rfl⟩, ds, rfl, ld, kd, bd⟩ := lc_stY hF rfl (fun p r => pOk p ∧ r = [some (potO p), some (.val (eD e)), some (.lst ((bs.map PyData.int).map O.val)), none, none, none, none, none, none])
      (rowK Prod.snd) rowK_nil ⟨ok1, rfl⟩ (by
        rintro ⟨t1, t2⟩ hi s r ⟨hs, rfl⟩
        have b := dg_ok (p := s) (m := 3) (by omega)
        cases t2 with
        | none => exact ⟨iO 0, s, _, by simp [lcF, tD, od] <;> rfl, ⟨hs, rfl⟩, fun ys' os h => rowK_cons (by omega) (.inr rfl) h⟩
        | some t => exact ⟨iO (dg s 3), nx s 3, _, by simp [lcF, tD, od, dr s hs 3 (by omega) (by omega)] <;> rfl, ⟨nx_ok hs (by omega), rfl⟩, fun ys' os h => rowK_cons (by omega) (.inl rfl) h⟩)
    rw [e1] at hx
    clear e1 hF
    simp [-List.map_map, ld, z, eD, enumD_map] at hx
    generalize hF : forGo _ _ _ _ = F at hx
    obtain ⟨r1, e1, l1, l2, x1, x2, x3, rfl⟩ := for_fold hF rfl (fun s r => s.2.1.length = e.am.length ∧ s.2.2.length = e.am.length ∧ ∃ x1 x2 x3, r = [some (potO p2), some (.val (eD e)), some (.lst ((s.2.1.map PyData.int).map O.val)), some (.lst ((s.2.2.map PyData.int).map O.val)), some (.val (.int s.1)), x1, none, x2, x3]) estep (s := (tot e.am bs ds, bs, ds)) ⟨by simp only; omega, by simp only; omega, none, none, none, rfl⟩ (by
      rintro ⟨⟨t1, t2⟩, i⟩ hi ⟨s, B, D⟩ r ⟨l1, l2, x1, x2, x3, rfl⟩
      obtain ⟨_, hi, _⟩ := List.mem_zipIdx hi
      simp only at l1 l2
      obtain ⟨b, hb⟩ := get_some (xs := B) (i := i) (by omega)
      obtain ⟨d, hd⟩ := get_some (xs := D) (i := i) (by omega)
      have gb : B.getD i 0 = b := by rw [List.getD_eq_getElem?_getD, hb]; rfl
      have gd : D.getD i 0 = d := by rw [List.getD_eq_getElem?_getD, hd]; rfl
      have ix1 : L2.ixN e.am.length (i : Int) = some i := ixN_nat (by omega)
      by_cases y1 : 0 < s
      · cases t2 with
        | none =>
          have y2 : ¬ s < 0 := by omega
          simp [-List.map_map, tD, od, estep, y1, y2, l1, l2]
        | some dd =>
          simp [-List.map_map, tD, od, estep, y1, hd, ix1, gd, ← List.map_set, l1, l2]
      · by_cases y2 : s < 0
        · cases t1 with
          | none => simp [-List.map_map, tD, od, estep, y1, y2, l1, l2]
          | some bb => simp [-List.map_map, tD, od, estep, y1, y2, hb, ix1, gb, ← List.map_set, l1, l2]
        · simp [-List.map_map, tD, estep, y1, y2, l1, l2])
    rw [e1] at hx
    clear e1 hF
    have hK : KI e.am e.tp ((e.tp.zipIdx 0).foldl estep (tot e.am bs ds, bs, ds)) := estep_KIs h4 zipIdx_get ⟨by simp only; omega, by simp only; omega, kb, kd, rfl⟩
    have hE : EB 100 5000 e.am.length (tot e.am bs ds, bs, ds) := ⟨by simp only; omega, by simp only; omega, .inl ⟨by
      have s1 := sum_bd (B := 99) (xs := e.am) fun x hx => by have := he.am x hx; omega
      have s2 := sum_bd bb
      have s3 := sum_bd bd
      simp only [tot]
      rw [lb] at s2
      rw [ld] at s3
      omega, fun x hx => by have := bb x hx; omega, fun x hx => by have := bd x hx; omega⟩⟩
    have hE := (estep_EBs (ps := e.tp.zipIdx 0) hE).all
    generalize (e.tp.zipIdx 0).foldl estep (tot e.am bs ds, bs, ds) = S at *
    obtain ⟨s, B, D⟩ := S
    simp only at hE l1 l2 hx
    have ch := c__law_hauls e he (.list (B.map PyData.int)) (.list (D.map PyData.int)) B D rfl rfl l1 l2 n
    by_cases hz : s = 0
    · subst hz
      simp [-List.map_map, -List.map_dropLast, ch] at hx
      refine ⟨_, _, ok2, hx, .inr ⟨(hauls 0 e.am B D).dropLast, B, D, rfl, plan_of h1 hK, ?_, ?_, ?_⟩⟩
      · have hb := hauls_bd (l := 0) (A := 99) (B := 5100) (am := e.am) (bs := B) (ds := D) (fun x hx => by have := he.am x hx; omega) (fun x hx => hE.1 x hx) (fun x hx => hE.2 x hx)
        have hm := Nat.mul_le_mul_right (99 + 5100 + 5100) h2
        intro x hx
        have := hb x ((List.dropLast_sublist _).mem hx)
        simp only [Int.natAbs_zero] at this
        omega
      · intro x hx; have := hE.1 x hx; omega
      · intro x hx; have := hE.2 x hx; omega
    · simp [hz] at hx
      exact ⟨_, _, ok2, hx, .inl rfl⟩
  exact key _ rfl
theorem c__law_ends (e : E) (he : ok e) (hs bs ds : List Int) (lb : bs.length = e.am.length) (ld : ds.length = e.am.length) (n : Nat) : cl gl Ps (n + 1) 32 [.val (eD e), .val (plD hs bs ds)] = some (.tup [.lst ((gvR e.am bs).map iO2), .lst ((tkR e.am ds).map iO2)], [none, none]) := by
  have h2 := he.l2
  have z1 : (e.am.zip bs).length ≤ sizeLine := by rw [List.length_zip]; unfold sizeLine; omega
  have z2 : (e.am.zip ds).length ≤ sizeLine := by rw [List.length_zip]; unfold sizeLine; omega
  simp only [List.length_zip] at z1 z2
  rw [r__law_ends]
  simp [s__law_ends, eD, plD, zipE_2, zip2_map, plainAt]
  generalize hF : lcGo _ _ _ = F
  have hF := lc_enc hF rfl (fun p => iO2 (max 0 p.1 + p.2)) (by
    rintro ⟨a, b⟩ hi
    simp [lcF])
  subst hF
  simp [z1, eD, plD, zipE_2, zip2_map, plainAt]
  generalize hF : lcGo _ _ _ = F
  have hF := lc_enc hF rfl (fun p => iO2 (max 0 (0 - p.1) + p.2)) (by
    rintro ⟨a, b⟩ hi
    simp [lcF])
  subst hF
  simp [z2, gvR, tkR]
theorem c__law_tips_cost (e : E) (he : ok e) (hs bs ds : List Int) (n : Nat) (hk : kept (·.1) e.tp bs = true) (hd : kept (·.2) e.tp ds = true) : cl gl Ps (n + 1) 37 [.val (eD e), .val (plD hs bs ds)] = some (.val (.int (tipsR e bs ds)), [none, none]) := by
  have h1 := he.l1; have h2 := he.l2; have h3 := he.lw; have h4 := he.lt
  rw [r__law_tips_cost]
  simp [s__law_tips_cost, eD, plD, zipE_3, zip3_map]
  generalize hF : forGo _ _ _ _ = F
  obtain ⟨r1, rfl, x1, x2, x3, x4, rfl⟩ := for_fold hF rfl (fun s r => ∃ x1 x2 x3 x4, r = [some (.val (eD e)), some (.val (plD hs bs ds)), some (.val (.int s)), x1, x2, x3, x4]) (fun s p => s + (tc p.1.1 p.2.1 + tc p.1.2 p.2.2)) (s := (0 : Int)) ⟨none, none, none, none, rfl⟩ (by
    rintro ⟨⟨t1, t2⟩, m, l⟩ hi s r ⟨x1, x2, x3, x4, rfl⟩
    obtain ⟨m1, m2⟩ := zip3_mem1 hi
    obtain ⟨a1, a2⟩ := kept_mem hk m1
    obtain ⟨b1, b2⟩ := kept_mem hd m2
    obtain ⟨q1, q2⟩ := mulOk_tip (he.tp _ (List.of_mem_zip m1).1)
    by_cases y : 0 < m
    · obtain ⟨b, rfl⟩ : ∃ b, t1 = some b := Option.isSome_iff_exists.mp (a2.resolve_right (by omega))
      have q1 := q1 b rfl
      by_cases z : 0 < l
      · obtain ⟨d, rfl⟩ : ∃ d, t2 = some d := Option.isSome_iff_exists.mp (b2.resolve_right (by omega))
        have q2 := q2 d rfl
        simp [tD, od, y, z, tc, binD_mul, q1, q2]
        omega
      · simp [tD, od, y, z, tc, binD_mul, q1]
    · by_cases z : 0 < l
      · obtain ⟨d, rfl⟩ : ∃ d, t2 = some d := Option.isSome_iff_exists.mp (b2.resolve_right (by omega))
        have q2 := q2 d rfl
        simp [tD, y, z, tc, binD_mul, q2, od]
      · simp [tD, y, z, tc])
  rw [foldl_sum]
  simp [tipsR]
end K91

end
section
set_option maxHeartbeats 4000000
/-! K91I: the law's own tables. -/
namespace K91
open PySem Mi Pl Er
def eL (e : E) (hs bs ds : List Int) (at_ : Int) (fd : List Ent) (i : Option O) (A C : List Int) (x8 x9 : Option O) : En := [some (.val (eD e)), some (.val (plD hs bs ds)), some (iO2 at_), some (.val (.list ((List.range e.am.length).map fun i => PyData.int (i : Nat)))), some (.lst (fd.map fun e => O.val (entD e))), i, some (.lst (A.map iO2)), some (.lst (C.map iO2)), x8, x9]
theorem row_get {i : Nat} : ∀ {C : List Int} {g : Int} {j : Nat}, (rowT i g C j).2.length = C.length
  | [], _, _ => rfl
  | t :: C, g, j => by simp only [rowT, List.length_cons, row_get]
theorem c__law_table0 (e : E) (he : ok e) (hs bs ds : List Int) (lb : bs.length = e.am.length) (ld : ds.length = e.am.length) (nb : nn bs) (nd : nn ds) (n : Nat) : cl gl Ps (n + 2) 33 [.val (eD e), .val (plD hs bs ds), .val (.int 0)] = some (.lst (((tolR e.am bs ds).map entD).map O.val), [none, none, none]) := by
  have h1 := he.l1; have h2 := he.l2
  have lg := gv_len lb
  have lt := tk_len ld
  rw [r__law_table]
  simp [s__law_table, c__law_ends e he hs bs ds lb ld n, lg, lrngE_nat (show e.am.length ≤ 2 ^ 24 by omega)]
  generalize hF : forGo _ _ _ _ = F
  obtain ⟨r1, rfl, fd, A, C, x5, x8, x9, rfl, lA, lC, nA, nC, hfd, lfd⟩ := for_rngH hF rfl (fun i r => ∃ fd A C x5 x8 x9, r = eL e hs bs ds 0 fd x5 A C x8 x9 ∧ A.length = e.am.length ∧ C.length = e.am.length ∧ nn (A.drop i) ∧ nn C ∧ fd ++ grd (A.drop i) C i 0 = tolR e.am bs ds ∧ fd.length ≤ 10 * i)
    ⟨[], gvR e.am bs, tkR e.am ds, none, none, none, rfl, lg, lt, gv_nn nb, tk_nn nd, (nw_grd (gv_nn nb) (tk_nn nd)).symm, by simp⟩ (by
      rintro i r hi ⟨fd, A, C, x5, x8, x9, rfl, lA, lC, nA, nC, hfd, lfd⟩ x hx
      obtain ⟨g, hg⟩ := get_some (xs := A) (i := i) (by omega)
      have dA : A.drop i = g :: A.drop (i + 1) := by
        rw [List.drop_eq_getElem_cons (by omega)]
        congr 1
        exact (List.getElem?_eq_some_iff.mp hg).2
      rw [dA, nn_cons] at nA
      rw [dA] at hfd
      simp only [grd] at hfd
      simp [eL] at hx
      generalize hF2 : forGo _ _ _ _ = F2 at hx
      obtain ⟨r2, e2, fd2, A2, C2, g2, y8, y9, rfl, lA2, lC2, hg2, dA2, ng2, nC2, hC2, hfd2, lfd2⟩ := for_rng hF2 rfl (fun j r => ∃ fd2 A2 C2 g2 y8 y9, r = eL e hs bs ds 0 fd2 (some (iO2 i)) A2 C2 y8 y9 ∧ A2.length = e.am.length ∧ C2.length = e.am.length ∧ A2[i]? = some g2 ∧ A2.drop (i + 1) = A.drop (i + 1) ∧ 0 ≤ g2 ∧ nn C2 ∧ C2.take j ++ (rowT i g2 (C2.drop j) j).2 = (rowT i g C 0).2 ∧ fd2 ++ (rowT i g2 (C2.drop j) j).1 = fd ++ (rowT i g C 0).1 ∧ fd2.length ≤ 10 * i + j)
        ⟨fd, A, C, g, x8, x9, rfl, lA, lC, hg, rfl, nA.1, nC, rfl, rfl, by omega⟩ (by
          rintro j r hj ⟨fd2, A2, C2, g2, y8, y9, rfl, lA2, lC2, hg2, dA2, ng2, nC2, hC2, hfd2, lfd2⟩
          obtain ⟨t, ht⟩ := get_some (xs := C2) (i := j) (by omega)
          have nt := nC2 t (List.mem_of_getElem? ht)
          have dC : C2.drop j = t :: C2.drop (j + 1) := by
            rw [List.drop_eq_getElem_cons (by omega)]
            congr 1
            exact (List.getElem?_eq_some_iff.mp ht).2
          have ix1 : L2.ixN e.am.length (i : Int) = some i := ixN_nat (by omega)
          have ix2 : L2.ixN e.am.length (j : Int) = some j := ixN_nat (by omega)
          have zf : fd2.length < sizeLine := by unfold sizeLine; omega
          rw [dC] at hC2 hfd2
          simp only [rowT] at hC2 hfd2
          by_cases hm : 0 < min g2 t
          · refine ⟨eL e hs bs ds 0 (fd2 ++ [(i, j, min g2 t)]) (some (iO2 i)) (A2.set i (g2 - min g2 t)) (C2.set j (t - min g2 t)) (some (iO2 j)) (some (iO2 (min g2 t))), ?_, _, _, _, g2 - min g2 t, _, _, rfl, by simpa using lA2, by simpa using lC2, by rw [List.getElem?_set_self (by omega)], by rw [← dA2]; simp [List.drop_set], by omega, ?_, ?_, ?_, by simp; omega⟩
            · simp [eL, hg2, ht, hm, zf, ix1, ix2, lA2, lC2, entD]
            · intro x hx
              rcases List.mem_or_eq_of_mem_set hx with h | h
              · exact nC2 x h
              · omega
            · rw [show (C2.set j (t - min g2 t)).drop (j + 1) = C2.drop (j + 1) by simp [List.drop_set], ← hC2]
              rw [List.take_add_one, List.take_set, List.set_eq_of_length_le (by rw [List.length_take]; omega), List.getElem?_set_self (by omega)]
              simp
            · rw [show (C2.set j (t - min g2 t)).drop (j + 1) = C2.drop (j + 1) by simp [List.drop_set], ← hfd2]
              simp [emit, hm]
          · have hm0 : min g2 t = 0 := by omega
            rw [hm0, Int.sub_zero, Int.sub_zero] at hC2
            rw [hm0, Int.sub_zero, emit_z] at hfd2
            refine ⟨eL e hs bs ds 0 fd2 (some (iO2 i)) A2 C2 (some (iO2 j)) (some (iO2 (min g2 t))), ?_, _, _, _, g2, _, _, rfl, lA2, lC2, hg2, dA2, ng2, nC2, ?_, hfd2, by omega⟩
            · simp [eL, hg2, ht, hm]
            · rw [← hC2, List.take_add_one, ht]
              simp)
      rw [List.drop_of_length_le (by omega)] at hC2 hfd2
      simp only [rowT, List.append_nil] at hC2 hfd2
      rw [List.take_of_length_le (by omega)] at hC2
      rw [e2] at hx
      refine ⟨_, by simpa using hx, _, _, _, _, _, _, rfl, lA2, lC2, by rw [dA2]; exact nA.2, nC2, ?_, by omega⟩
      rw [dA2, hfd2, hC2, List.append_assoc]
      exact hfd)
  rw [List.drop_of_length_le (by omega)] at hfd
  simp only [grd, List.append_nil] at hfd
  subst hfd
  have hN := tol_mono (am := e.am) nb nd
  have hv : vals ((tolR e.am bs ds).map fun e => O.val (entD e)) = some ((tolR e.am bs ds).map entD) := vals_mapf _ _
  have hs := biE_sorted hv (srt_rows (n := 3) (by decide) (rows_e _) (by rw [List.length_map]; unfold sizeLine; omega))
  rw [sort_mono hN] at hs
  simp [eL, hs]
theorem c__law_table1 (e : E) (he : ok e) (hs bs ds : List Int) (lb : bs.length = e.am.length) (ld : ds.length = e.am.length) (nb : nn bs) (nd : nn ds) {M : Int} (hM : ∀ t ∈ tkR e.am ds, t ≤ M) (n : Nat) : ∃ T : List Ent, (T.length ≤ 100 ∧ ∀ x ∈ T, x.1 < e.am.length ∧ x.2.1 < e.am.length ∧ 0 < x.2.2 ∧ x.2.2 ≤ M) ∧ cl gl Ps (n + 2) 33 [.val (eD e), .val (plD hs bs ds), .val (.int 1)] = some (.lst ((T.map entD).map O.val), [none, none, none]) := by
  have h1 := he.l1; have h2 := he.l2
  have lg := gv_len lb
  have lt := tk_len ld
  have key : ∀ x, x = cl gl Ps (n + 2) 33 [.val (eD e), .val (plD hs bs ds), .val (.int 1)] → ∃ T : List Ent, (T.length ≤ 100 ∧ ∀ x ∈ T, x.1 < e.am.length ∧ x.2.1 < e.am.length ∧ 0 < x.2.2 ∧ x.2.2 ≤ M) ∧ x = some (.lst ((T.map entD).map O.val), [none, none, none]) := by
    intro x hx
    rw [r__law_table] at hx
    simp [s__law_table, c__law_ends e he hs bs ds lb ld n, lg, lrngE_nat (show e.am.length ≤ 2 ^ 24 by omega)] at hx
    generalize hF : forGo _ _ _ _ = F at hx
    obtain ⟨r1, e1, fd, A, C, x5, x8, x9, rfl, lA, lC, nA, nC, mC, hfd, lfd⟩ := for_rngH hF rfl (fun i r => ∃ fd A C x5 x8 x9, r = eL e hs bs ds 1 fd x5 A C x8 x9 ∧ A.length = e.am.length ∧ C.length = e.am.length ∧ nn A ∧ nn C ∧ (∀ t ∈ C, t ≤ M) ∧ (∀ x ∈ fd, x.1 < e.am.length ∧ x.2.1 < e.am.length ∧ 0 < x.2.2 ∧ x.2.2 ≤ M) ∧ fd.length ≤ 10 * i)
      ⟨[], gvR e.am bs, tkR e.am ds, none, none, none, rfl, lg, lt, gv_nn nb, tk_nn nd, hM, by simp, by simp⟩ (by
        rintro i r hi ⟨fd, A, C, x5, x8, x9, rfl, lA, lC, nA, nC, mC, hfd, lfd⟩ x hx
        simp [-List.map_reverse, eL] at hx
        generalize hF2 : forGo _ _ _ _ = F2 at hx
        obtain ⟨r2, e2, fd2, A2, C2, y8, y9, rfl, lA2, lC2, nA2, nC2, mC2, hfd2, lfd2⟩ := for_cnt (ys := (List.range e.am.length).reverse) (enc := fun i => PyData.int (i : Nat)) hF2 (by rw [List.map_reverse]) (fun k r => ∃ fd2 A2 C2 y8 y9, r = eL e hs bs ds 1 fd2 (some (iO2 i)) A2 C2 y8 y9 ∧ A2.length = e.am.length ∧ C2.length = e.am.length ∧ nn A2 ∧ nn C2 ∧ (∀ t ∈ C2, t ≤ M) ∧ (∀ x ∈ fd2, x.1 < e.am.length ∧ x.2.1 < e.am.length ∧ 0 < x.2.2 ∧ x.2.2 ≤ M) ∧ fd2.length ≤ 10 * i + k)
          ⟨fd, A, C, x8, x9, rfl, lA, lC, nA, nC, mC, hfd, by omega⟩ (by
            rintro j hj k r hk ⟨fd2, A2, C2, y8, y9, rfl, lA2, lC2, nA2, nC2, mC2, hfd2, lfd2⟩
            rw [List.mem_reverse, List.mem_range] at hj
            rw [List.length_reverse, List.length_range] at hk
            obtain ⟨g, hg⟩ := get_some (xs := A2) (i := i) (by omega)
            obtain ⟨t, ht⟩ := get_some (xs := C2) (i := j) (by omega)
            have ng := nA2 g (List.mem_of_getElem? hg)
            have nt := nC2 t (List.mem_of_getElem? ht)
            have mt := mC2 t (List.mem_of_getElem? ht)
            have ix1 : L2.ixN e.am.length (i : Int) = some i := ixN_nat (by omega)
            have ix2 : L2.ixN e.am.length (j : Int) = some j := ixN_nat (by omega)
            have zf : fd2.length < sizeLine := by unfold sizeLine; omega
            by_cases hm : 0 < min g t
            · refine ⟨eL e hs bs ds 1 (fd2 ++ [(i, j, min g t)]) (some (iO2 i)) (A2.set i (g - min g t)) (C2.set j (t - min g t)) (some (iO2 j)) (some (iO2 (min g t))), ?_, _, _, _, _, _, rfl, by simpa using lA2, by simpa using lC2, ?_, ?_, ?_, ?_, by simp; omega⟩
              · simp [eL, hg, ht, hm, zf, ix1, ix2, lA2, lC2, entD]
              · intro x hx
                rcases List.mem_or_eq_of_mem_set hx with h | h
                · exact nA2 x h
                · omega
              · intro x hx
                rcases List.mem_or_eq_of_mem_set hx with h | h
                · exact nC2 x h
                · omega
              · intro x hx
                rcases List.mem_or_eq_of_mem_set hx with h | h
                · exact mC2 x h
                · omega
              · intro x hx
                rcases List.mem_append.mp hx with h | h
                · exact hfd2 x h
                · rw [List.mem_singleton] at h
                  subst h
                  simp only
                  omega
            · refine ⟨eL e hs bs ds 1 fd2 (some (iO2 i)) A2 C2 (some (iO2 j)) (some (iO2 (min g t))), ?_, _, _, _, _, _, rfl, lA2, lC2, nA2, nC2, mC2, hfd2, by omega⟩
              simp [eL, hg, ht, hm])
        rw [e2] at hx
        rw [List.length_reverse, List.length_range] at lfd2
        exact ⟨_, by simpa using hx, _, _, _, _, _, _, rfl, lA2, lC2, nA2, nC2, mC2, hfd2, by omega⟩)
    rw [e1] at hx
    have hv : vals (fd.map fun e => O.val (entD e)) = some (fd.map entD) := vals_mapf _ _
    have hs := biE_sorted hv (srt_rows (n := 3) (by decide) (rows_e _) (by rw [List.length_map]; unfold sizeLine; omega))
    obtain ⟨T, eT, hT⟩ := list_choose (P := fun x => x ∈ fd) (L := (fd.map entD).mergeSort leD) fun d hd => by
      rw [List.mem_mergeSort, List.mem_map] at hd
      obtain ⟨x, h, rfl⟩ := hd
      exact ⟨x, h, rfl⟩
    have lT : T.length = fd.length := by
      have := congrArg List.length eT
      rw [List.length_mergeSort, List.length_map, List.length_map] at this
      exact this.symm
    rw [eT] at hs
    simp [eL, hs] at hx
    exact ⟨T, ⟨by omega, fun x hx => hfd x (hT x hx)⟩, by simpa using hx⟩
  exact key _ rfl
end K91

end
section
set_option maxHeartbeats 4000000
/-! K91J: the law's look at tables, their costs. -/
namespace K91
open PySem Mi Pl Er
theorem entOf_no {m : Nat} {d : PyData} (h : ∀ i j k, d = .tuple [.int i, .int j, .int k] → ¬ (0 ≤ i ∧ i < m ∧ 0 ≤ j ∧ j < m ∧ 0 < k)) : (entOf m d).isSome = false := by
  unfold entOf
  split
  · rename_i i j k
    rw [if_neg (h i j k rfl)]; rfl
  · rfl
theorem c__law_is_table (e : E) (he : ok e) (hs bs ds : List Int) (lb : bs.length = e.am.length) (ld : ds.length = e.am.length) (v : PyData) (hv : vok v) (hz : ∀ vs, seqD v = some vs → vs.length ≤ sizeLine) (n : Nat) :
    cl gl Ps (n + 2) 35 [.val (eD e), .val (plD hs bs ds), .val v] = some (.val (.bool (isTab e.am.length (gvR e.am bs) (tkR e.am ds) v)), [none, none, none]) := by
  have h1 := he.l1; have h2 := he.l2
  have lg := gv_len lb
  have lt := tk_len ld
  have cgt := c__law_ends e he hs bs ds lb ld n
  rw [r__law_is_table]
  cases hq : seqD v with
  | none =>
    have e0 : isTab e.am.length (gvR e.am bs) (tkR e.am ds) v = false := by unfold isTab; simp only [hq]
    cases v with
    | list _ => cases hq
    | tuple _ => cases hq
    | dict _ => have := hv.nd; simp at this
    | _ => simp [s__law_is_table, e0]
  | some vs =>
    have hzv := hz vs hq
    have hv2 := seq_cases hq
    have hvs : ∀ d ∈ vs, vok d := by
      rcases hv2 with rfl | rfl
      · intro d hd
        have h1 := hv.lay
        have h2 := hv.dep
        simp only [PyData.canLay0] at h1
        simp only [PyData.depth] at h2
        have := depAll_le.mp (show PyData.depthAll vs ≤ 49 by omega) d hd
        exact ⟨canAll_mem h1 d hd, by omega⟩
      · exact hv.tup
    have hr : rngE [.val (.int e.am.length)] = some ((List.range e.am.length).map fun i => PyData.int (i : Nat)) := rngE_nat (by omega)
    have kp : ∀ (w0 w1 w2 w3 w4 w5 w6 w7 w8 : Option O) (qs : List PyData), (∀ d ∈ qs, vok d) → lcGo (lcF gl (cl gl Ps (n + 1)) (Mi.T.var 9) (G.nm 9) ((Mi.T.call 34 ((Mi.T.var 9).cons Mi.T.nil)).not) [9]) qs [w0, w1, w2, w3, w4, w5, w6, w7, w8, none] = some ((qs.filter fun d => !isI d).map O.val, [w0, w1, w2, w3, w4, w5, w6, w7, w8, none]) := by
      intro w0 w1 w2 w3 w4 w5 w6 w7 w8 qs hqs
      have := lcGo_filt (enc := fun d => d) (f := lcF gl (cl gl Ps (n + 1)) (Mi.T.var 9) (G.nm 9) ((Mi.T.call 34 ((Mi.T.var 9).cons Mi.T.nil)).not) [9]) (r := [w0, w1, w2, w3, w4, w5, w6, w7, w8, none]) (fun d => !isI d) O.val (ys := qs) (by
        intro y hy
        simp [lcF, c__law_is_int y n (hqs y hy).nd]
        cases isI y <;> simp)
      simpa using this
    clear hz hq
    rcases hv2 with rfl | rfl
    all_goals
      simp [s__law_is_table]
      generalize hF : forGo _ _ _ _ = F
      obtain ⟨r1, rfl, x4, rfl⟩ := for_chk (enc := fun d => d) (ys := vs) hF (by simp) (o := .val (.bool false)) (fun d => (entOf e.am.length d).isSome) (fun r => ∃ x4 : Option PyData, r = [some (.val (eD e)), some (.val (plD hs bs ds)), some _, some (.val (.int e.am.length)), x4.map O.val, none, none, none, none, none]) ⟨none, rfl⟩ (by
        rintro d hd r ⟨x4, rfl⟩
        have hvd := hvs d hd
        refine ⟨[some (.val (eD e)), some (.val (plD hs bs ds)), some _, some (.val (.int e.am.length)), some (.val d), none, none, none, none, none], ?_, some d, rfl⟩
        cases d with
        | dict _ => have := hvd.nd; simp at this
        | tuple qs =>
          by_cases hl : qs.length = 3
          · obtain ⟨a, b, c, rfl⟩ := three hl
            have hq := hvd.tup
            have kp' := fun w0 w1 w2 w3 w4 w5 w6 w7 w8 => kp w0 w1 w2 w3 w4 w5 w6 w7 w8 [a, b, c] hq
            have hfv : ∀ d ∈ ([a, b, c].filter fun d => !isI d), vok d := fun d hd => hq d (List.mem_filter.mp hd).1
            have zf : ([a, b, c].filter fun d => !isI d).length ≤ sizeLine := Nat.le_trans (List.length_filter_le _ _) (by simp [sizeLine])
            by_cases hI : [a, b, c].all isI = true
            · have e0 : [a, b, c].filter (fun d => !isI d) = [] := by
                rw [List.filter_eq_nil_iff]
                intro d hd
                have := List.all_eq_true.mp hI d hd
                simp [this]
              rw [e0] at kp'
              obtain ⟨xs, ex⟩ := intL_isI hI
              obtain ⟨i, j, k, rfl⟩ := three (xs := xs) (by have := congrArg List.length ex; simpa using this.symm)
              simp only [List.map_cons, List.map_nil, List.cons.injEq, and_true] at ex
              obtain ⟨rfl, rfl, rfl⟩ := ex
              have cn := cmpD_neN (ds := []) (by simp)
              by_cases q1 : 0 ≤ i ∧ i < e.am.length
              · by_cases q2 : 0 ≤ j ∧ j < e.am.length
                · by_cases q3 : k ≤ 0
                  · rw [entOf_no (by simp; omega)]
                    simp [plainAt, kp', cn, q1, q2, q3]
                  · have : (entOf e.am.length (.tuple [.int i, .int j, .int k])).isSome = true := by
                      unfold entOf; simp only; rw [if_pos (by omega)]; rfl
                    rw [this]
                    simp [plainAt, kp', cn, q1, q2, q3]
                · rw [entOf_no (by simp; omega)]
                  by_cases q4 : 0 ≤ j
                  · simp [plainAt, kp', cn, q1, q4, show ¬ j < (e.am.length : Int) by omega]
                  · simp [plainAt, kp', cn, q1, q4]
              · rw [entOf_no (by simp; omega)]
                by_cases q4 : 0 ≤ i
                · simp [plainAt, kp', cn, q4, show ¬ i < (e.am.length : Int) by omega]
                · simp [plainAt, kp', cn, q4]
            · have e0 : ([a, b, c].filter (fun d => !isI d)).isEmpty = false := by
                rw [Bool.eq_false_iff]
                intro h
                apply hI
                rw [List.isEmpty_iff, List.filter_eq_nil_iff] at h
                rw [List.all_eq_true]
                intro d hd
                simpa using h d hd
              rw [entOf_no (by
                intro i j k hh
                exfalso
                apply hI
                simp only [PyData.tuple.injEq, List.cons.injEq, and_true] at hh
                rw [hh.1, hh.2.1, hh.2.2]
                rfl)]
              simp [-List.filter_cons, plainAt, kp', zf, cmpD_neN hfv, e0]
          · rw [entOf_no (by
              intro i j k hh
              exfalso
              apply hl
              simp only [PyData.tuple.injEq] at hh
              rw [hh]; rfl)]
            have : ¬ (qs.length : Int) = 3 := by omega
            simp [this]
        | _ => simp [entOf])
      rw [← entsOf_isSome]
      cases hT : entsOf e.am.length vs with
      | none =>
        rw [isTab_no rfl hT]
        simp
      | some T =>
        rw [isTab_yes rfl hT]
        obtain ⟨rfl, hTe⟩ := entsOf_some hT
        rw [List.length_map] at hzv
        have zz : ((T.zip (T.drop 1)).filter fun p => !lexE p).length ≤ sizeLine := Nat.le_trans (List.length_filter_le _ _) (by rw [List.length_zip]; omega)
        have zd : zip2 (T.map entD) ((T.map entD).drop 1) = (T.zip (T.drop 1)).map fun p => .tuple [entD p.1, entD p.2] := by rw [← List.map_drop, zip2_map]
        have z0 : ([] : List PyData).length ≤ sizeLine := by simp
        have cn := cmpD_neN (ds := []) (by simp)
        have zr : ∀ p : Ent → Bool, (T.filter p).length ≤ sizeLine := fun p => Nat.le_trans (List.length_filter_le _ _) hzv
        have e0 : tabR e.am.length (gvR e.am bs) (tkR e.am ds) T = ((T.zip (T.drop 1)).all lexE && (List.range e.am.length).all fun k => decide (rsum k T = (gvR e.am bs).getD k 0) && decide (csum k T = (tkR e.am ds).getD k 0)) := by unfold tabR; rw [List.drop_one]
        rw [e0]
        generalize hB : ((List.range e.am.length).all fun k => decide (rsum k T = (gvR e.am bs).getD k 0) && decide (csum k T = (tkR e.am ds).getD k 0)) = b
        have kz : ∀ (w0 w1 w2 w3 w5 w6 w7 w9 : Option O), lcGo (lcF gl (cl gl Ps (n + 1)) (Mi.T.var 4) (G.tp ((G.nm 4).cons ((G.nm 8).cons G.nil))) (Mi.T.cmp Cop.ge ((Mi.T.var 4).slc Mi.T.nil (Mi.T.con (PyData.int 2))) ((Mi.T.var 8).slc Mi.T.nil (Mi.T.con (PyData.int 2)))) [4, 8]) ((T.zip (T.drop 1)).map fun p => .tuple [entD p.1, entD p.2]) [w0, w1, w2, w3, none, w5, w6, w7, none, w9] = some (((T.zip (T.drop 1)).filter fun p => !lexE p).map fun p => O.val (entD p.1), [w0, w1, w2, w3, none, w5, w6, w7, none, w9]) := by
          intro w0 w1 w2 w3 w5 w6 w7 w9
          refine lcGo_filt _ _ ?_
          rintro ⟨x, y⟩ hp
          have hh : decide (x.1 < y.1 ∨ ((x.1 : Int) = y.1 ∧ x.2.1 < y.2.1)) = lexE (x, y) := by
            unfold lexE
            by_cases h : x.1 < y.1 ∨ (x.1 = y.1 ∧ x.2.1 < y.2.1)
            · rw [decide_eq_true h, decide_eq_true (by omega)]
            · rw [decide_eq_false h, decide_eq_false (by omega)]
          simp [-Bool.decide_or, -Bool.decide_and, lcF, cutO, entD]
          rw [hh]
          cases lexE (x, y) <;> simp [entD]
        have k1 : ∀ (w0 w1 w2 w3 w6 w7 w8 w9 : Option O) (k : Nat), lcGo (lcF gl (cl gl Ps (n + 1)) ((Mi.T.var 4).idx (Mi.T.con (PyData.int 2))) (G.nm 4) (Mi.T.cmp Cop.eq ((Mi.T.var 4).idx (Mi.T.con (PyData.int 0))) (Mi.T.var 5)) [4]) (T.map entD) [w0, w1, w2, w3, none, some (.val (.int k)), w6, w7, w8, w9] = some ((T.filter fun e => decide (e.1 = k)).map fun e => iO2 e.2.2, [w0, w1, w2, w3, none, some (.val (.int k)), w6, w7, w8, w9]) := by
          intro w0 w1 w2 w3 w6 w7 w8 w9 k
          refine lcGo_filt _ _ ?_
          rintro ⟨a, b, c⟩ he2
          by_cases hk : a = k
          · simp [lcF, entD, hk]
          · simp [lcF, entD, hk, show ¬ (a : Int) = k by omega]
        have k2 : ∀ (w0 w1 w2 w3 w6 w7 w8 w9 : Option O) (k : Nat), lcGo (lcF gl (cl gl Ps (n + 1)) ((Mi.T.var 4).idx (Mi.T.con (PyData.int 2))) (G.nm 4) (Mi.T.cmp Cop.eq ((Mi.T.var 4).idx (Mi.T.con (PyData.int 1))) (Mi.T.var 5)) [4]) (T.map entD) [w0, w1, w2, w3, none, some (.val (.int k)), w6, w7, w8, w9] = some ((T.filter fun e => decide (e.2.1 = k)).map fun e => iO2 e.2.2, [w0, w1, w2, w3, none, some (.val (.int k)), w6, w7, w8, w9]) := by
          intro w0 w1 w2 w3 w6 w7 w8 w9 k
          refine lcGo_filt _ _ ?_
          rintro ⟨a, b, c⟩ he2
          by_cases hk : b = k
          · simp [lcF, entD, hk]
          · simp [lcF, entD, hk, show ¬ (b : Int) = k by omega]
        have hvg : ∀ d ∈ ((T.zip (T.drop 1)).filter fun p => !lexE p).map (fun p => entD p.1), vok d := fun d hd => by
          obtain ⟨p, _, rfl⟩ := List.mem_map.mp hd
          exact entD_vok
        have hem : (((T.zip (T.drop 1)).filter fun p => !lexE p).map (fun p => entD p.1)).isEmpty = (T.zip (T.drop 1)).all lexE := by
          rw [List.isEmpty_map]
          rw [Bool.eq_iff_iff, List.isEmpty_iff, List.filter_eq_nil_iff, List.all_eq_true]
          simp
        have hne := cmpD_neN hvg
        rw [hem] at hne
        have hvv : vals (((T.zip (T.drop 1)).filter fun p => !lexE p).map fun p => O.val (entD p.1)) = some (((T.zip (T.drop 1)).filter fun p => !lexE p).map fun p => entD p.1) := vals_mapf _ _
        rcases x4 with _ | x4
        all_goals
          simp [-List.map_drop, -List.drop_one, cutO, zipE_2, zd, plainAt, kz, zz, hne]
          by_cases hl : (T.zip (T.drop 1)).all lexE = true
          · simp [-List.drop_one, hl, cgt, hr]
            generalize hF : forGo _ _ _ _ = F
            obtain ⟨r1, rfl, x5, rfl⟩ := for_chk hF rfl (o := .val (.bool false)) (fun k => decide (rsum k T = (gvR e.am bs).getD k 0) && decide (csum k T = (tkR e.am ds).getD k 0)) (fun r => ∃ x5, r = [some (.val (eD e)), some (.val (plD hs bs ds)), some _, some (.val (.int e.am.length)), _, x5, some (.lst ((gvR e.am bs).map iO2)), some (.lst ((tkR e.am ds).map iO2)), none, none]) ⟨none, rfl⟩ (by
              rintro k hk r ⟨x5, rfl⟩
              rw [List.mem_range] at hk
              obtain ⟨g, hg⟩ := get_some (xs := gvR e.am bs) (i := k) (by omega)
              obtain ⟨t, ht⟩ := get_some (xs := tkR e.am ds) (i := k) (by omega)
              have gg : (gvR e.am bs).getD k 0 = g := by rw [List.getD_eq_getElem?_getD, hg]; rfl
              have gt : (tkR e.am ds).getD k 0 = t := by rw [List.getD_eq_getElem?_getD, ht]; rfl
              rw [gg, gt]
              by_cases q1 : rsum k T = g
              · have q1' := q1
                unfold rsum at q1'
                by_cases q2 : csum k T = t
                · have q2' := q2
                  unfold csum at q2'
                  simp [zr, plainAt, k1, k2, q1', q2', hg, ht, q1, q2]
                · have q2' := q2
                  unfold csum at q2'
                  simp [zr, plainAt, k1, k2, q1', q2', hg, ht, q1, q2]
              · have q1' := q1
                unfold rsum at q1'
                simp [zr, plainAt, k1, q1', hg, q1])
            rw [hB]
            cases b <;> simp
          · simp [-List.drop_one, hl]
end K91

end
section
set_option maxHeartbeats 4000000
/-! K91K: the law's costs of tables, its lines. -/
namespace K91
open PySem Mi Pl Er
theorem rngE_mn {i j : Nat} (h : i ≤ j) (hj : j < 2 ^ 60) : rngE [.val (.int (i : Int)), .val (.int (j : Int))] = some ((List.range (j - i)).map fun k => PyData.int ((i + k : Nat) : Int)) := by
  have e : ∀ a b : Int, rngE [.val (.int a), .val (.int b)] = if small a && small b then some (rngI a b 1) else none := fun _ _ => rfl
  have q : ∀ n : Nat, n < 2 ^ 60 → small (n : Int) = true := fun n hn => by
    unfold small
    rw [decide_eq_true (by omega), decide_eq_true (by omega)]; rfl
  rw [e, q i (by omega), q j hj]
  simp only [Bool.and_self, if_true]
  unfold rngI
  rw [if_pos rfl, show ((j : Int) - (i : Int)).toNat = j - i by omega]
  congr 1
theorem c__law_table_cost (e : E) (he : ok e) (v : PyData) {T : List Ent} (hT : seqD v = some (T.map entD)) (hTe : ∀ x ∈ T, x.1 < e.am.length ∧ x.2.1 < e.am.length ∧ 0 < x.2.2) (n : Nat) : cl gl Ps (n + 1) 36 [.val (eD e), .val v] = some (.val (.int (tcost e.wy T)), [none, none]) := by
  have h1 := he.l1; have h2 := he.l2; have h3 := he.lw
  rw [r__law_table_cost]
  rcases seq_cases hT with rfl | rfl
  all_goals
    simp [s__law_table_cost]
    generalize hF : forGo _ _ _ _ = F
    obtain ⟨r1, rfl, x3, x4, x5, x6, rfl⟩ := for_foldH hF rfl (fun s r => ∃ x3 x4 x5 x6, r = [some (.val (eD e)), some _, some (.val (.int s)), x3, x4, x5, x6]) (fun s t => s + wayR e.wy t.1 t.2.1 * t.2.2) (s := (0 : Int)) ⟨none, none, none, none, rfl⟩ (by
      rintro ⟨i, j, m⟩ hi s r ⟨x3, x4, x5, x6, rfl⟩ x hx
      have hh := hTe _ hi
      simp only at hh
      by_cases hij : i < j
      · have m1 : min (i : Int) j = i := by omega
        have m2 : max (i : Int) j = j := by omega
        simp [entD, m1, m2, rngE_mn (show i ≤ j by omega) (show j < 2 ^ 60 by omega)] at hx
        generalize hF2 : forGo _ _ _ _ = F2 at hx
        obtain ⟨r2, e2, y6, rfl⟩ := for_fold (ys := List.range (j - i)) (enc := fun k => PyData.int ((i + k : Nat) : Int)) hF2 (by simp) (fun s r => ∃ x6, r = [some (.val (eD e)), some _, some (.val (.int s)), some (iO2 i), some (iO2 j), some (iO2 m), x6]) (fun s k => s + m * (e.wy.getD (i + k) (0, 0)).1) (s := s) ⟨x6, rfl⟩ (by
          rintro k hk s r ⟨x6, rfl⟩
          rw [List.mem_range] at hk
          obtain ⟨w, hw⟩ := get_some (xs := e.wy) (i := i + k) (by omega)
          have q := he.wy w (List.mem_of_getElem? hw)
          have gw : e.wy.getD (i + k) (0, 0) = w := by rw [List.getD_eq_getElem?_getD, hw]; rfl
          have ga : L2.atI (e.wy.map wD) ((i : Int) + (k : Int)) = some (wD w) := by
            have := atI_nat (xs := e.wy.map wD) (k := i + k)
            rw [List.getElem?_map, hw] at this
            simpa using this
          rw [gw]
          simp [eD, hij, ga, wD, binD_mul (mulOk_r (i := m) (j := w.1) (by omega) (by omega))])
        rw [e2, fold_add (fun k => m * (e.wy.getD (i + k) (0, 0)).1)] at hx
        have es : ((List.range (j - i)).map fun k => m * (e.wy.getD (i + k) (0, 0)).1).sum = wayR e.wy i j * m := by
          unfold wayR
          rw [if_pos (by omega), way_range Prod.fst (i := i) (n := j - i) (by omega) (0, 0), Int.mul_comm, ← sum_mul, List.map_map]
          rfl
        rw [es] at hx
        exact ⟨_, by simpa using hx, _, _, _, _, rfl⟩
      · have m1 : min (i : Int) j = j := by omega
        have m2 : max (i : Int) j = i := by omega
        simp [entD, m1, m2, rngE_mn (show j ≤ i by omega) (show i < 2 ^ 60 by omega)] at hx
        generalize hF2 : forGo _ _ _ _ = F2 at hx
        obtain ⟨r2, e2, y6, rfl⟩ := for_fold (ys := List.range (i - j)) (enc := fun k => PyData.int ((j + k : Nat) : Int)) hF2 (by simp) (fun s r => ∃ x6, r = [some (.val (eD e)), some _, some (.val (.int s)), some (iO2 i), some (iO2 j), some (iO2 m), x6]) (fun s k => s + m * (e.wy.getD (j + k) (0, 0)).2) (s := s) ⟨x6, rfl⟩ (by
          rintro k hk s r ⟨x6, rfl⟩
          rw [List.mem_range] at hk
          obtain ⟨w, hw⟩ := get_some (xs := e.wy) (i := j + k) (by omega)
          have q := he.wy w (List.mem_of_getElem? hw)
          have gw : e.wy.getD (j + k) (0, 0) = w := by rw [List.getD_eq_getElem?_getD, hw]; rfl
          have ga : L2.atI (e.wy.map wD) ((j : Int) + (k : Int)) = some (wD w) := by
            have := atI_nat (xs := e.wy.map wD) (k := j + k)
            rw [List.getElem?_map, hw] at this
            simpa using this
          rw [gw]
          simp [eD, hij, ga, wD, binD_mul (mulOk_r (i := m) (j := w.2) (by omega) (by omega))])
        rw [e2, fold_add (fun k => m * (e.wy.getD (j + k) (0, 0)).2)] at hx
        have es : ((List.range (i - j)).map fun k => m * (e.wy.getD (j + k) (0, 0)).2).sum = wayR e.wy i j * m := by
          by_cases hle : i ≤ j
          · have : i - j = 0 := by omega
            unfold wayR
            rw [if_pos hle, show j - i = 0 by omega, this]
            simp
          · unfold wayR
            rw [if_neg hle, way_range Prod.snd (i := j) (n := i - j) (by omega) (0, 0), Int.mul_comm, ← sum_mul, List.map_map]
            rfl
        rw [es] at hx
        exact ⟨_, by simpa using hx, _, _, _, _, rfl⟩)
    rw [fold_add (fun t : Ent => wayR e.wy t.1 t.2.1 * t.2.2)]
    simp [tcost]
end K91

end
section
set_option maxHeartbeats 4000000
/-! K91F: values bent. -/
namespace K91
open PySem Mi Pl Er
theorem sv_int {k : Nat} {i : Int} (h : i.natAbs ≤ 2 ^ 40) : sv k (.int i) := by cases k <;> exact h
theorem sv_none {k : Nat} : sv k .none := by cases k <;> trivial
theorem sv_bool {k : Nat} {b : Bool} : sv k (.bool b) := by cases k <;> trivial
theorem sv_str {k : Nat} {x : Str} (h : PyData.strOk x = true ∧ x.length ≤ 100) : sv k (.str x) := by cases k <;> exact h
theorem c__law_bent : ∀ (k : Nat) (v : PyData) (p : Int × Int) (n : Nat), tv k v → pOk p → ∃ w q, sv k w ∧ pOk q ∧ cl gl Ps (n + 3 + k) 38 [potO p, .val v] = some (.val w, [some (potO q), none]) := by
  have int_case : ∀ (k : Nat) (i : Int) (p : Int × Int) (n : Nat), i.natAbs ≤ 2 ^ 39 → pOk p → ∃ w q, sv k w ∧ pOk q ∧ cl gl Ps (n + 3) 38 [potO p, .val (.int i)] = some (.val w, [some (potO q), none]) := by
    intro k i p n hi hp
    have hs : i.natAbs.log2 < 1920 := log_ok (by omega)
    obtain ⟨d, hd, q⟩ := c__law_pick p hp [.none, .int (i + 1), .int (i - 1), .int 0, .bool true, .str (Str.ofString (toString i))] (by simp) (by simp) n
    refine ⟨d, nx p 6, ?_, nx_ok hp (by decide), ?_⟩
    · simp only [List.mem_cons, List.not_mem_nil, or_false] at hd
      rcases hd with rfl | rfl | rfl | rfl | rfl | rfl
      · exact sv_none
      · exact sv_int (by omega)
      · exact sv_int (by omega)
      · exact sv_int (by decide)
      · exact sv_bool
      · exact sv_str ⟨strOk_of _, str_len (by omega)⟩
    · rw [r__law_bent]
      simp at q
      simp [s__law_bent, biE_str hs, q]
  intro k
  induction k with
  | zero =>
    intro v p n hv hp
    cases v with
    | int i => exact int_case 0 i p n hv hp
    | _ => simp [tv] at hv
  | succ k ih =>
    intro v p n hv hp
    cases v with
    | int i =>
      have := int_case (k + 1) i p (n + (k + 1)) hv hp
      rwa [show n + (k + 1) + 3 = n + 3 + (k + 1) by omega] at this
    | tuple ds =>
      simp only [tv] at hv
      obtain ⟨hl, hv⟩ := hv
      have hsv : ∀ d ∈ ds, sv k d := fun d hd => tv_sv (hv d hd)
      have z1 : (ds ++ ds.drop (ds.length - 1)).length ≤ sizeLine := by rw [List.length_append, List.length_drop]; unfold sizeLine; omega
      -- the whole is bent
      have whole : ∀ (r : Int × Int), pOk r → ∃ w q, sv (k + 1) w ∧ pOk q ∧ cl gl Ps (n + k + 1 + 2) 27 [potO r, .lst ([.tuple ds.dropLast, .tuple (ds ++ ds.drop (ds.length - 1)), .list ds, .none, .tuple ds.reverse].map O.val)] = some (.val w, [some (potO q), none]) := by
        intro r hr
        obtain ⟨d, hd, q⟩ := c__law_pick r hr [.tuple ds.dropLast, .tuple (ds ++ ds.drop (ds.length - 1)), .list ds, .none, .tuple ds.reverse] (by simp) (by simp) (n + k + 1)
        refine ⟨d, nx r 5, ?_, nx_ok hr (by decide), q⟩
        simp only [List.mem_cons, List.not_mem_nil, or_false] at hd
        rcases hd with rfl | rfl | rfl | rfl | rfl
        · simp only [sv]
          exact ⟨by rw [List.length_dropLast]; omega, fun d hd => hsv d ((List.dropLast_sublist _).mem hd)⟩
        · simp only [sv]
          refine ⟨by rw [List.length_append, List.length_drop]; omega, fun d hd => ?_⟩
          rcases List.mem_append.mp hd with h | h
          · exact hsv d h
          · exact hsv d (List.mem_of_mem_drop h)
        · simp only [sv]
          exact ⟨by omega, hsv⟩
        · exact sv_none
        · simp only [sv]
          exact ⟨by rw [List.length_reverse]; omega, fun d hd => hsv d (List.mem_reverse.mp hd)⟩
      have dr := fun (p : Int × Int) (hp : pOk p) (m : Int) (h1 : 1 ≤ m) (h2 : m < 1073741824) => c__law_draw p hp m h1 h2 (n + k + 2)
      rw [show n + 3 + (k + 1) = n + k + 3 + 1 by omega, r__law_bent]
      by_cases h0 : ds = []
      · obtain ⟨w, q, g1, g2, g3⟩ := whole p hp
        refine ⟨w, q, g1, g2, ?_⟩
        subst h0
        simp at g3
        simp [s__law_bent, binD_tup, cutL_but, cutL_end, g3]
      · have hlen : 1 ≤ ds.length := List.length_pos_iff.mpr h0
        have hl0 : ¬ (ds.length : Int) = 0 := by omega
        have hp1 := nx_ok (m := 4) hp (by omega)
        by_cases h1 : dg p 4 = 0
        · obtain ⟨w, q, g1, g2, g3⟩ := whole (nx p 4) hp1
          refine ⟨w, q, g1, g2, ?_⟩
          simp at g3
          simp [s__law_bent, hl0, h0, dr p hp 4 (by omega) (by omega), h1, binD_tup z1, cutL_but, cutL_end, g3]
        · have b := dg_ok (p := nx p 4) (m := ds.length) (by omega)
          have hp2 := nx_ok (m := ds.length) hp1 (by omega)
          obtain ⟨i, hi⟩ : ∃ i : Nat, dg (nx p 4) ds.length = i := ⟨(dg (nx p 4) ds.length).toNat, by omega⟩
          obtain ⟨d, hd⟩ := get_some (xs := ds) (i := i) (by omega)
          obtain ⟨w, q, g1, g2, g3⟩ := ih d (nx (nx p 4) ds.length) n (hv d (List.mem_of_getElem? hd)) hp2
          rw [show n + 3 + k = n + k + 3 by omega] at g3
          have z2 : (ds.take i ++ [w]).length ≤ sizeLine := by rw [List.length_append, List.length_take]; unfold sizeLine; simp; omega
          have z3 : ((ds.take i ++ [w]) ++ ds.drop (i + 1)).length ≤ sizeLine := by rw [List.length_append, List.length_append, List.length_take, List.length_drop]; unfold sizeLine; simp; omega
          refine ⟨.tuple ((ds.take i ++ [w]) ++ ds.drop (i + 1)), q, ?_, g2, ?_⟩
          · simp only [sv]
            refine ⟨by rw [List.length_append, List.length_append, List.length_take, List.length_drop]; simp; omega, fun x hx => ?_⟩
            rcases List.mem_append.mp hx with h | h
            · rcases List.mem_append.mp h with h | h
              · exact hsv x (List.mem_of_mem_take h)
              · rw [List.mem_singleton] at h; subst h; exact g1
            · exact hsv x (List.mem_of_mem_drop h)
          · simp [-List.append_assoc, s__law_bent, hl0, h0, dr p hp 4 (by omega) (by omega), h1, dr (nx p 4) hp1 ds.length (by omega) (by omega), hi, hd, g3, binD_tup z2, binD_tup z3]
    | _ => simp [tv] at hv
end K91

end
section
set_option maxHeartbeats 4000000
/-! K91N: lists bent; the law. -/
namespace K91
open PySem Mi Pl Er
theorem c__law_pick_o (p : Int × Int) (hp : pOk p) (o : O) (ds : List PyData) (ho : o.toD = some (.list ds)) (h1 : 1 ≤ ds.length) (h2 : ds.length ≤ 1000) (n : Nat) : ∃ d, d ∈ ds ∧ cl gl Ps (n + 2) 27 [potO p, o] = some (.val d, [some (potO (nx p ds.length)), none]) := by
  obtain ⟨d, hd, q⟩ := c__law_pick p hp ds h1 h2 n
  refine ⟨d, hd, ?_⟩
  rw [r__law_pick] at q ⊢
  rw [fz_of ho]
  rw [fz_of (o := .lst (ds.map O.val)) (d := .list ds) (by simp)] at q
  exact q
@[simp] theorem biE_tupvl {ds : List PyData} : biE .tuple [.val (.list ds)] = some (.val (.tuple ds)) := (rfl)
@[simp] theorem biE_listvl {ds : List PyData} : biE .list [.val (.list ds)] = some (.lst (ds.map O.val)) := (rfl)
theorem c__law_bent_l (k : Nat) (ds : List PyData) (hl : ds.length ≤ 20) (hv : ∀ d ∈ ds, tv k d) (p : Int × Int) (n : Nat) (hp : pOk p) : ∃ o w q, o.toD = some w ∧ sv (k + 1) w ∧ pOk q ∧ cl gl Ps (n + 3 + (k + 1)) 38 [potO p, .val (.list ds)] = some (o, [some (potO q), none]) := by
  have hsv : ∀ d ∈ ds, sv k d := fun d hd => tv_sv (hv d hd)
  have z1 : (ds ++ ds.drop (ds.length - 1)).length ≤ sizeLine := by rw [List.length_append, List.length_drop]; unfold sizeLine; omega
  have whole : ∀ (r : Int × Int), pOk r → ∃ w q, sv (k + 1) w ∧ pOk q ∧ ∀ o : O, o.toD = some (.list [.list ds.dropLast, .list (ds ++ ds.drop (ds.length - 1)), .tuple ds, .none, .list ds.reverse]) → cl gl Ps (n + k + 1 + 2) 27 [potO r, o] = some (.val w, [some (potO q), none]) := by
    intro r hr
    obtain ⟨d, hd, q⟩ := c__law_pick_o r hr (.val (.list [.list ds.dropLast, .list (ds ++ ds.drop (ds.length - 1)), .tuple ds, .none, .list ds.reverse])) [.list ds.dropLast, .list (ds ++ ds.drop (ds.length - 1)), .tuple ds, .none, .list ds.reverse] toD_val (by simp) (by simp) (n + k + 1)
    refine ⟨d, nx r 5, ?_, nx_ok hr (by decide), fun o ho => ?_⟩
    · simp only [List.mem_cons, List.not_mem_nil, or_false] at hd
      rcases hd with rfl | rfl | rfl | rfl | rfl
      · simp only [sv]
        exact ⟨by rw [List.length_dropLast]; omega, fun d hd => hsv d ((List.dropLast_sublist _).mem hd)⟩
      · simp only [sv]
        refine ⟨by rw [List.length_append, List.length_drop]; omega, fun d hd => ?_⟩
        rcases List.mem_append.mp hd with h | h
        · exact hsv d h
        · exact hsv d (List.mem_of_mem_drop h)
      · simp only [sv]
        exact ⟨by omega, hsv⟩
      · exact sv_none
      · simp only [sv]
        exact ⟨by rw [List.length_reverse]; omega, fun d hd => hsv d (List.mem_reverse.mp hd)⟩
    · rw [r__law_pick] at q ⊢
      rw [fz_of ho]
      exact q
  have dr := fun (p : Int × Int) (hp : pOk p) (m : Int) (h1 : 1 ≤ m) (h2 : m < 1073741824) => c__law_draw p hp m h1 h2 (n + k + 2)
  rw [show n + 3 + (k + 1) = n + k + 3 + 1 by omega, r__law_bent]
  by_cases h0 : ds = []
  · obtain ⟨w, q, g1, g2, g3⟩ := whole p hp
    refine ⟨.val w, w, q, by simp, g1, g2, ?_⟩
    subst h0
    simp [s__law_bent, binD_lst, cutO, cutL_but, cutL_end]
    rw [g3 _ (by simp)]
    simp
  · have hlen : 1 ≤ ds.length := List.length_pos_iff.mpr h0
    have hl0 : ¬ (ds.length : Int) = 0 := by omega
    have hp1 := nx_ok (m := 4) hp (by omega)
    by_cases h1 : dg p 4 = 0
    · obtain ⟨w, q, g1, g2, g3⟩ := whole (nx p 4) hp1
      refine ⟨.val w, w, q, by simp, g1, g2, ?_⟩
      simp [-List.map_append, -List.map_reverse, -List.map_dropLast, -List.map_drop, s__law_bent, hl0, h0, dr p hp 4 (by omega) (by omega), h1, binD_lst z1, cutO, cutL_but, cutL_end]
      rw [g3 _ (by simp [-List.map_append, -List.map_reverse, -List.map_dropLast, -List.map_drop])]
      simp
    · have b := dg_ok (p := nx p 4) (m := ds.length) (by omega)
      have hp2 := nx_ok (m := ds.length) hp1 (by omega)
      obtain ⟨i, hi⟩ : ∃ i : Nat, dg (nx p 4) ds.length = i := ⟨(dg (nx p 4) ds.length).toNat, by omega⟩
      obtain ⟨d, hd⟩ := get_some (xs := ds) (i := i) (by omega)
      obtain ⟨w, q, g1, g2, g3⟩ := c__law_bent k d (nx (nx p 4) ds.length) n (hv d (List.mem_of_getElem? hd)) hp2
      rw [show n + 3 + k = n + k + 3 by omega] at g3
      have z2 : (ds.take i ++ [w]).length ≤ sizeLine := by rw [List.length_append, List.length_take]; unfold sizeLine; simp; omega
      have z3 : ((ds.take i ++ [w]) ++ ds.drop (i + 1)).length ≤ sizeLine := by rw [List.length_append, List.length_append, List.length_take, List.length_drop]; unfold sizeLine; simp; omega
      refine ⟨.lst (((ds.take i ++ [w]) ++ ds.drop (i + 1)).map O.val), .list ((ds.take i ++ [w]) ++ ds.drop (i + 1)), q, by rw [toD_lst, toDs_map]; rfl, ?_, g2, ?_⟩
      · simp only [sv]
        refine ⟨by rw [List.length_append, List.length_append, List.length_take, List.length_drop]; simp; omega, fun x hx => ?_⟩
        rcases List.mem_append.mp hx with h | h
        · rcases List.mem_append.mp h with h | h
          · exact hsv x (List.mem_of_mem_take h)
          · rw [List.mem_singleton] at h; subst h; exact g1
        · exact hsv x (List.mem_of_mem_drop h)
      · simp [-List.append_assoc, -List.map_append, -List.map_take, -List.map_drop, cutO, s__law_bent, hl0, h0, dr p hp 4 (by omega) (by omega), h1, dr (nx p 4) hp1 ds.length (by omega) (by omega), hi, hd, g3, binD_lst z2, binD_lst z3]
theorem zip_shift (xs : List (Int × Int)) (ys : List Int) (f : Int × Int → Int → Int) (g : Int → Int) : ((xs.zip (ys.map g)).map fun p => f p.1 p.2) = (xs.zip ys).map fun p => f p.1 (g p.2) := by
  rw [List.zip_map_right, List.map_map]; rfl
theorem ln_bd {e : E} (he : ok e) : ∀ x ∈ lnR e, x.natAbs ≤ 1000 := fun x hx => by
  obtain ⟨k, _, rfl⟩ := List.mem_map.mp hx
  have h2 := he.l2
  have := sum_bd (B := 99) (xs := e.am.take (k + 1)) fun y hy => by have := he.am y (List.mem_of_mem_take hy); omega
  rw [List.length_take] at this
  omega
theorem sh_bd {e : E} (he : ok e) (x : Int) (hx : x.natAbs ≤ 1000) : (shR e x).natAbs ≤ 2 ^ 40 := by
  have h2 := he.l2; have h3 := he.lw
  unfold shR
  have a1 := sum_map_bd (L := 10) (B := 2 ^ 30) (xs := e.wy.zip ((lnR e).map fun y => y + x)) (f := fun p => hl p.1 p.2) (by rw [List.length_zip]; omega) (by
    rintro ⟨w, m⟩ hm
    have q1 := he.wy w (List.of_mem_zip hm).1
    have q2 := (List.of_mem_zip hm).2
    obtain ⟨y, hy, rfl⟩ := List.mem_map.mp q2
    have q3 := ln_bd he y hy
    have r1 := mul_bd (a := w.1) (b := max 0 (y + x)) (A := 99) (B := 2000) (by omega) (by omega)
    have r2 := mul_bd (a := w.2) (b := max 0 (0 - (y + x))) (A := 99) (B := 2000) (by omega) (by omega)
    simp only [hl]
    omega)
  omega
theorem bal_bd {e : E} (he : ok e) : (balR e).natAbs ≤ 1000 := by
  unfold balR
  cases hb : balL e with
  | nil => simp
  | cons p ps =>
    have hm := minP_mem ps p
    rw [← hb] at hm
    obtain ⟨x, hx, e1⟩ := List.mem_map.mp hm
    have := ln_bd he x hx
    simp only
    rw [← e1]
    simp only
    omega
theorem c__law_lines_right (e : E) (he : ok e) (n : Nat) : cl gl Ps (n + 7) 39 [.val (eD e)] = some (.val (.bool true), [none]) := by
  have h1 := he.l1; have h2 := he.l2; have h3 := he.lw
  have z : e.wy.length ≤ sizeLine := by unfold sizeLine; omega
  have zl : (lnR e).length < sizeLine := by rw [ln_len]; unfold sizeLine; omega
  have hr : rngE [.val (.int e.wy.length)] = some ((List.range e.wy.length).map fun i => PyData.int (i : Nat)) := rngE_nat (by omega)
  have hlnv : sv 1 (.list ((lnR e).map PyData.int)) := by
    simp only [sv]
    refine ⟨by rw [List.length_map, ln_len]; omega, fun d hd => ?_⟩
    obtain ⟨x, hx, rfl⟩ := List.mem_map.mp hd
    have := ln_bd he x hx
    exact sv_int (by omega)
  have rp1 : biE .repr [.lst ((lnR e).map iO2)] = some (.val (.str (PyData.shown (.list ((lnR e).map PyData.int))))) := biE_repr (by simp) (rep_sv (sv_up hlnv))
  have rp3 : ∀ o : O, o.toD = some (.list ((lnR e).map PyData.int)) → biE .repr [.lst [o, .val (.int (balR e)), .val (.int (balR e))]] = some (.val (.str (PyData.shown (.list [.list ((lnR e).map PyData.int), .int (balR e), .int (balR e)])))) := fun o ho => biE_repr (d := .list [.list ((lnR e).map PyData.int), .int (balR e), .int (balR e)]) (by simp [ho]) (rep_sv (by
    have hb := bal_bd he
    simp only [sv]
    refine ⟨by simp, fun d hd => ?_⟩
    simp only [List.mem_cons, List.not_mem_nil, or_false] at hd
    rcases hd with rfl | rfl | rfl
    · exact hlnv
    · exact sv_int (by omega)
    · exact sv_int (by omega)))
  rw [r__law_lines_right]
  refine stepS (r1 := [some (.val (eD e)), some (.lst ((lnR e).map iO2)), none, none, none, none, none, none, none]) ?_ ?_
  · simp [eD, hr, plainAt]
    generalize hF : lcGo _ _ _ = F
    have hF := lc_enc hF rfl (fun k => iO2 (e.am.take (k + 1)).sum) (by
      intro k hk
      simp [lcF, cutO, ← List.map_take])
    subst hF
    simp [z, lnR]
  refine stepS (r1 := [some (.val (eD e)), some (.lst ((lnR e).map iO2)), some (.lst ((lnR e).map iO2)), none, none, none, none, none, none]) (by simp [c_line e he n]) ?_
  refine stepS (r1 := [some (.val (eD e)), some (.lst ((lnR e).map iO2)), some (.lst ((lnR e).map iO2)), none, none, none, none, none, none]) (by simp [rp1]) ?_
  refine stepS (r1 := [some (.val (eD e)), some (.lst ((lnR e).map iO2)), some (.lst ((lnR e).map iO2 ++ [.val .none])), none, none, none, none, none, none]) (by simp [zl]) ?_
  refine stepS (r1 := [some (.val (eD e)), some (.lst ((lnR e).map iO2)), some (.lst ((lnR e).map iO2 ++ [.val .none])), some (.lst []), none, none, none, none, none]) (by simp) ?_
  have key : ∃ x4, ex gl (cl gl Ps (n + 6)) (.for_ (.nm 4) .seq (.var 1) (.sq (.ex (.app (.var 3) (.tup (.cons (.bi .sum (.cons (.lc (.call 29 (.cons (.var 7) (.cons (.bin .sub (.var 8) (.var 4)) (.nil)))) (.tp (.cons (.nm 7) (.cons (.nm 8) (.nil)))) .zip (.cons (.idx (.var 0) (.con (.int 2))) (.cons (.var 1) (.nil))) (.con (.bool true)) [("way", 7), ("much", 8)]) (.nil))) (.cons (.bin .sub (.con (.int 0)) (.var 4)) (.nil)))))) (.nop)))
      [some (.val (eD e)), some (.lst ((lnR e).map iO2)), some (.lst ((lnR e).map iO2 ++ [.val .none])), some (.lst []), none, none, none, none, none] = some (.nx, [some (.val (eD e)), some (.val (.list ((lnR e).map PyData.int))), some (.lst ((lnR e).map iO2 ++ [.val .none])), some (.lst ((balL e).map fun p => O.val (pD p))), x4, none, none, none, none]) := by
    simp
    generalize hF : forGo _ _ _ _ = F
    obtain ⟨r1, rfl, ls, x4, rfl⟩ := for_foldC hF rfl (fun k s r => s.length = k ∧ ∃ x4, r = [some (.val (eD e)), some (.val (.list ((lnR e).map PyData.int))), some (.lst ((lnR e).map iO2 ++ [.val .none])), some (.lst (s.map fun p => O.val (pD p))), x4, none, none, none, none]) (fun (s : List (Int × Int)) x => s ++ [(shR e (0 - x), 0 - x)]) (s := []) ⟨rfl, none, rfl⟩ (by
      rintro x hx k s r hk ⟨ls, x4, rfl⟩
      have zs : s.length < sizeLine := by omega
      have hz : zipE [.val (wyD e), .val (.list ((lnR e).map PyData.int))] = some ((e.wy.zip (lnR e)).map fun p => .tuple [wD p.1, .int p.2]) := by
        rw [zipE_2 (x := e.wy.map wD) (y := (lnR e).map PyData.int) rfl rfl, zip2_map]
      have z2 : (e.wy.zip (lnR e)).length ≤ sizeLine := by rw [List.length_zip]; omega
      simp only [List.length_zip] at z2
      have kl : ∀ w1 w2 w3 w5 w6 : Option O, lcGo (lcF gl (cl gl Ps (n + 6)) (.call 29 (.cons (.var 7) (.cons (.bin .sub (.var 8) (.var 4)) (.nil)))) (.tp (.cons (.nm 7) (.cons (.nm 8) (.nil)))) (.con (.bool true)) [7, 8]) ((e.wy.zip (lnR e)).map fun p => .tuple [wD p.1, .int p.2]) [some (.val (eD e)), w1, w2, w3, some (.val (.int x)), w5, w6, none, none] = some ((e.wy.zip (lnR e)).map (fun p => iO2 (hl p.1 (p.2 - x))), [some (.val (eD e)), w1, w2, w3, some (.val (.int x)), w5, w6, none, none]) := by
        intro w1 w2 w3 w5 w6
        refine lcGo_enc _ fun p hp => ?_
        have q := he.wy _ (List.of_mem_zip hp).1
        simp [lcF, c__law_hauled p.1 (p.2 - x) q (n + 5)]
      have es : ((e.wy.zip (lnR e)).map (fun p => hl p.1 (p.2 - x))).sum = shR e (-x) := by
        unfold shR
        rw [zip_shift e.wy (lnR e) hl fun y => y + -x]
        rfl
      simp [hz, plainAt, kl, z2, es, show k < sizeLine by omega, ls, pD])
    refine ⟨x4, ?_⟩
    have : (lnR e).foldl (fun (s : List (Int × Int)) x => s ++ [(shR e (0 - x), 0 - x)]) [] = balL e := by
      have : ∀ (xs : List Int) (s : List (Int × Int)), xs.foldl (fun (s : List (Int × Int)) x => s ++ [(shR e (0 - x), 0 - x)]) s = s ++ xs.map fun x => (shR e (0 - x), 0 - x) := by
        intro xs
        induction xs with
        | nil => simp
        | cons x xs ih => intro s; rw [List.foldl_cons, ih]; simp
      rw [this]; rfl
    rw [this]
  obtain ⟨x4, key⟩ := key
  refine stepS key ?_
  have hvb : vals ((balL e).map fun p => O.val (pD p)) = some ((balL e).map pD) := vals_mapf _ _
  have hvk : ∀ d ∈ (balL e).map pD, vok d := fun d hd => by
    obtain ⟨p, _, rfl⟩ := List.mem_map.mp hd
    exact vok_pD
  refine stepS (r1 := [some (.val (eD e)), some (.val (.list ((lnR e).map PyData.int))), some (.lst ((lnR e).map iO2 ++ [.val .none])), some (.lst ((balL e).map fun p => O.val (pD p))), x4, some (.val (.int (balR e))), none, none, none]) ?_ ?_
  · unfold balR
    cases hb : balL e with
    | nil =>
      have cn := cmpD_neN (ds := []) (by simp)
      simp [cn]
    | cons p ps =>
      rw [hb] at hvb hvk
      have cn := cmpD_neN hvk
      have hm := biE_minD (d := pD p) (ds := ps.map pD) hvb (by simp [intL, pD]) (min_rows (n := 2) (rows_p (p :: ps)))
      rw [minD_p] at hm
      have e0 : ((p :: ps).map pD).isEmpty = false := rfl
      simp [-List.map_cons, hvb, cn, e0, hm]
      simp [pD]
  simp [c_line e he n, c_balance e he n, permL, rp3]
end K91

end
section
set_option maxHeartbeats 4000000
/-! K91Q: the law's look at one earth. -/
namespace K91
open PySem Mi Pl Er
@[simp] theorem toDs_rev {ds : List PyData} : toDs (ds.map O.val).reverse = some ds.reverse := by rw [← List.map_reverse]; exact toDs_map _
/-- values that are looked at -/
structure gv (m : Nat) (v : PyData) : Prop where
  ok : vok v
  rp : repOk v = true
  sz : ∀ vs, seqD v = some vs → vs.length ≤ 100 ∧ ∀ d ∈ vs, sv 1 d
theorem gv_sv {m : Nat} {v : PyData} (h : sv 2 v) : gv m v := ⟨h.vok (by decide), rep_sv h, fun vs hs => by
  rcases seq_cases hs with rfl | rfl
  · simp only [sv] at h
    exact ⟨by omega, h.2⟩
  · simp only [sv] at h
    exact ⟨by omega, h.2⟩⟩
theorem ent_sv {M : Nat} {x : Ent} (h1 : x.1 < 10) (h2 : x.2.1 < 10) (h3 : 0 < x.2.2 ∧ x.2.2 ≤ 2 ^ 39) : sv 1 (entD x) ∧ tv 1 (entD x) := by
  have t : tv 1 (entD x) := by
    unfold entD
    simp only [tv]
    refine ⟨by simp, fun d hd => ?_⟩
    simp only [List.mem_cons, List.not_mem_nil, or_false] at hd
    rcases hd with rfl | rfl | rfl <;> simp only [tv] <;> omega
  exact ⟨tv_sv t, t⟩
theorem gv_far {m : Nat} {T : List Ent} (h1 : T.length ≤ 100) (h2 : ∀ x ∈ T, x.1 < 10 ∧ x.2.1 < 10 ∧ 0 < x.2.2 ∧ x.2.2 ≤ 2 ^ 39) : gv m (.list (T.map entD)) := by
  have hs : ∀ d ∈ T.map entD, sv 1 d := fun d hd => by
    obtain ⟨x, hx, rfl⟩ := List.mem_map.mp hd
    have := h2 x hx
    exact (ent_sv (M := 0) this.1 this.2.1 this.2.2).1
  have hvk : ∀ d ∈ T.map entD, vok d := fun d hd => (hs d hd).vok (by decide)
  refine ⟨⟨?_, ?_⟩, rep_ok ?_ ?_ ?_ ?_, fun vs hv => ?_⟩
  · simp only [PyData.canLay0]
    exact canAll_of fun d hd => (hvk d hd).lay
  · simp only [PyData.depth]
    have := depAll_le (k := 1) (ds := T.map entD) |>.mpr fun d hd => (sv_vok 1 d (by decide) (hs d hd)).2
    omega
  · rw [nd_lst]; exact nds_all fun d hd => (hvk d hd).nd
  · simp only [PyData.showable]
    exact showAll fun d hd => (sv_mz (hs d hd)).1
  · simp only [PyData.depth]
    have := depAll_le (k := 1) (ds := T.map entD) |>.mpr fun d hd => (sv_vok 1 d (by decide) (hs d hd)).2
    omega
  · simp only [mz]
    have := mzs_le (k := 1921 * 50 + 2) (ds := T.map entD) fun d hd => by have := (sv_mz (hs d hd)).2; omega
    rw [List.length_map] at this
    have h3 := Nat.mul_le_mul_right (1921 * 50 + 2) h1
    unfold sizeLine
    omega
  · cases hv
    exact ⟨by rw [List.length_map]; exact h1, hs⟩
theorem tcost_bd {e : E} (he : ok e) {T : List Ent} (h1 : T.length ≤ 100) (h2 : ∀ x ∈ T, sv 1 (entD x)) : (tcost e.wy T).natAbs ≤ 2 ^ 80 := by
  unfold tcost
  have := sum_map_bd (L := 100) (B := 2 ^ 60) (xs := T) (f := fun x => wayR e.wy x.1 x.2.1 * x.2.2) h1 (by
    intro x hx
    have hw := way_bd he x.1 x.2.1
    have hs := h2 x hx
    unfold entD at hs
    simp only [sv] at hs
    have hm := hs.2 (.int x.2.2) (by simp)
    simp only [sv] at hm
    have := mul_bd (a := wayR e.wy x.1 x.2.1) (b := x.2.2) (A := 1000) (B := 2 ^ 40) (by omega) hm
    omega)
  omega
theorem rep_two {a b : PyData} (h1 : nd a = true ∧ nd b = true) (h2 : a.showable = true ∧ b.showable = true) (h3 : a.depth ≤ 10 ∧ b.depth ≤ 10) (h4 : mz a ≤ 2000 ∧ mz b ≤ 2000) : biE .repr [.lst [.val a, .val b]] = some (.val (.str (PyData.shown (.list [a, b])))) := by
  refine biE_repr (by simp) (rep_ok (by simp [h1]) ?_ ?_ ?_)
  · simp only [PyData.showable, PyData.showableAll, h2.1, h2.2]; rfl
  · simp only [PyData.depth, PyData.depthAll]; omega
  · simp only [mz, mzs]; unfold sizeLine; omega
def eQ (e : E) (hs bs ds : List Int) (TT TF : List Ent) (q : Int × Int) (x6 x9 x10 x11 : Option O) : En := [some (potO q), some (.val (eD e)), some (.val (.list (TT.map entD))), some (.val (.int (hcost e.wy hs))), some (.lst ((TT.map entD).map O.val ++ [.val .none])), some (.val (.list (TF.map entD))), x6, some (.val (.str (eD e).shown)), some (.val (plD hs bs ds)), x9, x10, x11, none]
def Good (x : Option (O × List (Option O))) : Prop := ∃ q, pOk q ∧ x = some (.val (.bool true), [some (potO q), none])
theorem stepG {cf : Cf} {io : List Bool} {a b : S} {r r1 : En} (h : ex gl cf a r = some (.nx, r1)) (h2 : Good (endK io (ex gl cf b r1))) : Good (endK io (ex gl cf (.sq a b) r)) := by
  rw [ex_sq, h]
  exact h2
theorem stepH {cf : Cf} {io : List Bool} {a b : S} {r : En} (h : ∀ x, x = ex gl cf a r → ∃ r1, x = some (.nx, r1) ∧ Good (endK io (ex gl cf b r1))) : Good (endK io (ex gl cf (.sq a b) r)) := by
  obtain ⟨r1, e, g⟩ := h _ rfl
  rw [ex_sq, e]
  exact g
theorem c__law_right (e : E) (he : ok e) (p : Int × Int) (hp : pOk p) (n : Nat) : ∃ q, pOk q ∧ cl gl Ps (n + 8) 40 [potO p, .val (eD e)] = some (.val (.bool true), [some (potO q), none]) := by
  have h1 := he.l1; have h2 := he.l2; have h3 := he.lw; have h4 := he.lt
  have rE : biE .repr [.val (eD e)] = some (.val (.str (eD e).shown)) := biE_repr (by simp) (eD_rep he)
  obtain ⟨plan, p1, hp1, cpl, hplan⟩ := c__law_plan e he p hp (n + 5)
  show Good _
  rw [r__law_right]
  unfold s__law_right
  refine stepG (r1 := [some (potO p1), some (.val (eD e)), none, none, none, none, none, some (.val (.str (eD e).shown)), some (.val plan), none, none, none, none]) (by simp [rE, cpl]) ?_
  refine stepG (r1 := [some (potO p1), some (.val (eD e)), none, none, none, none, none, some (.val (.str (eD e).shown)), some (.val plan), none, none, none, none]) (by simp [c__law_lines_right e he n]) ?_
  rcases hplan with rfl | ⟨hs, bs, ds, rfl, hpr, bh, bb, bd⟩
  · exact ⟨p1, hp1, by simp [rE]⟩
  obtain ⟨l1, l2, l3', n1, n2, kb, kd, hh⟩ := plan_parts he hpr
  have hne : e.am ≠ [] := fun h => by rw [h] at h1; simp at h1
  have htot : tot e.am bs ds = 0 := by
    have := (hauls_iff (hs := hs) (l := 0) l2 l3' hne).mp hh
    omega
  have hMk : ∀ t ∈ tkR e.am ds, t ≤ 99 + 2 ^ 38 := tk_le (A := 99) (D := 2 ^ 38) he.am (fun d hd => by have := bd d hd; omega) (by omega)
  have tN := tol_NW n1 n2 hMk
  have lg := gv_len l2
  have ltk := tk_len l3'
  generalize hTT : tolR e.am bs ds = TT at tN
  have lTT : TT.length ≤ 20 := by have := tN.len; omega
  have eTT : ∀ x ∈ TT, x.1 < e.am.length ∧ x.2.1 < e.am.length ∧ 0 < x.2.2 ∧ x.2.2 ≤ 2 ^ 39 := fun x hx => by
    have a1 := tN.i1 x hx
    have a2 := tN.j1 x hx
    have a3 := tN.pos x hx
    omega
  have svT : ∀ d ∈ TT.map entD, sv 1 d ∧ tv 1 d := fun d hd => by
    obtain ⟨x, hx, rfl⟩ := List.mem_map.mp hd
    have := eTT x hx
    exact ent_sv (M := 0) (by omega) (by omega) this.2.2
  have hcs : tcost e.wy TT = hcost e.wy hs := tcost_eq (by omega) (fun x hx => by have := tN.pos x hx; omega) tN.mono (by rw [← hTT]; exact tol_hauls l2 l3' n1 n2 hh htot)
  have svL : sv 2 (.list (TT.map entD)) := by
    simp only [sv]
    exact ⟨by rw [List.length_map]; omega, fun d hd => (svT d hd).1⟩
  have rT : ∀ o : O, o.toD = some (.list (TT.map entD)) → biE .repr [o] = some (.val (.str (PyData.shown (.list (TT.map entD))))) := fun o ho => biE_repr ho (rep_sv svL)
  have t0 := c__law_table0 e he hs bs ds l2 l3' n1 n2 (n + 5)
  obtain ⟨TF, ⟨lF, eF⟩, t1⟩ := c__law_table1 e he hs bs ds l2 l3' n1 n2 hMk (n + 5)
  have ctb := c_table e he hs bs ds n hpr
  rw [hTT] at t0 ctb
  have cst := c_cost e he hs bs ds n hpr
  have tps := c__law_tips_cost e he hs bs ds (n + 6) kb kd
  have ltc := c__law_table_cost e he (.list (TT.map entD)) (T := TT) rfl (fun x hx => by have := eTT x hx; omega) (n + 6)
  rw [hcs] at ltc
  have chc : costR e hs bs ds - tipsR e bs ds = hcost e.wy hs := by rw [costR_eq]; omega
  have zT : TT.length < sizeLine := by unfold sizeLine; omega
  refine stepG (r1 := [some (potO p1), some (.val (eD e)), none, none, none, none, none, some (.val (.str (eD e).shown)), some (.val (plD hs bs ds)), none, none, none, none]) (by simp [plD]) ?_
  refine stepG (r1 := [some (potO p1), some (.val (eD e)), some (.lst ((TT.map entD).map O.val)), none, none, none, none, some (.val (.str (eD e).shown)), some (.val (plD hs bs ds)), none, none, none, none]) (by simp [t0]) ?_
  refine stepG (r1 := [some (potO p1), some (.val (eD e)), some (.lst ((TT.map entD).map O.val)), some (.val (.int (hcost e.wy hs))), none, none, none, some (.val (.str (eD e).shown)), some (.val (plD hs bs ds)), none, none, none, none]) (by simp [cst, tps, chc]) ?_
  refine stepG (r1 := [some (potO p1), some (.val (eD e)), some (.lst ((TT.map entD).map O.val)), some (.val (.int (hcost e.wy hs))), some (.lst ((TT.map entD).map O.val)), none, none, some (.val (.str (eD e).shown)), some (.val (plD hs bs ds)), none, none, none, none]) (by simp [ctb]) ?_
  refine stepG (r1 := [some (potO p1), some (.val (eD e)), some (.val (.list (TT.map entD))), some (.val (.int (hcost e.wy hs))), some (.lst ((TT.map entD).map O.val)), none, none, some (.val (.str (eD e).shown)), some (.val (plD hs bs ds)), none, none, none, none]) (by simp [-List.map_map, rT, ltc]) ?_
  refine stepG (r1 := [some (potO p1), some (.val (eD e)), some (.val (.list (TT.map entD))), some (.val (.int (hcost e.wy hs))), some (.lst ((TT.map entD).map O.val ++ [.val .none])), none, none, some (.val (.str (eD e).shown)), some (.val (plD hs bs ds)), none, none, none, none]) (by simp [-List.map_map, zT]) ?_
  refine stepG (r1 := [some (potO p1), some (.val (eD e)), some (.val (.list (TT.map entD))), some (.val (.int (hcost e.wy hs))), some (.lst ((TT.map entD).map O.val ++ [.val .none])), none, none, some (.val (.str (eD e).shown)), some (.val (plD hs bs ds)), none, none, none, none]) (by simp [-List.map_map, permL, ctb, rT]) ?_
  refine stepG (r1 := [some (potO p1), some (.val (eD e)), some (.val (.list (TT.map entD))), some (.val (.int (hcost e.wy hs))), some (.lst ((TT.map entD).map O.val ++ [.val .none])), some (.lst ((TF.map entD).map O.val)), none, some (.val (.str (eD e).shown)), some (.val (plD hs bs ds)), none, none, none, none]) (by simp [-List.map_map, t1]) ?_
  refine stepH fun x hx => ?_
  have r6 : rngE [.val (.int 6)] = some ((List.range 6).map fun i => PyData.int (i : Nat)) := rngE_nat (n := 6) (by decide)
  simp [-List.map_map, r6, plainAt] at hx
  generalize hF : lcGo _ _ _ = F at hx
  obtain ⟨os, q, r1', e1, ⟨hq, rfl⟩, l3, ws, hos, hw⟩ := lc_st hF rfl (fun q r => pOk q ∧ r = eQ e hs bs ds TT TF q none none none none)
    (fun _ os _ => ∃ ws : List PyData, os.map fz = ws.map O.val ∧ ∀ w ∈ ws, sv 2 w) (fun _ => ⟨[], rfl, by simp⟩) ⟨hp1, by simp [eQ]⟩ (by
      rintro i hi s r ⟨hs', rfl⟩
      obtain ⟨o, w, s', ho, sw, hs2, c⟩ := c__law_bent_l 1 (TT.map entD) (by rw [List.length_map]; omega) (fun d hd => (svT d hd).2) s (n + 2) hs'
      refine ⟨o, s', _, by simp [eQ, lcF, c] <;> rfl, ⟨hs2, rfl⟩, ?_⟩
      rintro os s2 ⟨ws, h0, h⟩
      exact ⟨w :: ws, by rw [List.map_cons, List.map_cons, h0, fz_of ho], fun a ha => by
        rcases List.mem_cons.mp ha with rfl | ha
        · exact sw
        · exact h a ha⟩)
  rw [e1] at hx
  clear e1 hF
  have lws : ws.length = os.length := by
    have := congrArg List.length hos
    rw [List.length_map, List.length_map] at this
    exact this.symm
  simp only [List.length_map, List.length_range] at l3
  have zz : ([.list (TT.map entD), .list (TF.map entD), .tuple (TT.map entD), .list (TT.map entD).reverse, .none, .int 0, .list [], .list [.tuple [.int 0, .int 0, .int 0]]] ++ ws : List PyData).length ≤ sizeLine := by rw [List.length_append]; unfold sizeLine; simp; omega
  simp [-List.map_map, -List.cons_append, -List.map_reverse, eQ, l3, hos, binD_lst zz] at hx
  have hvs : ∀ v ∈ ([.list (TT.map entD), .list (TF.map entD), .tuple (TT.map entD), .list (TT.map entD).reverse, .none, .int 0, .list [], .list [.tuple [.int 0, .int 0, .int 0]]] ++ ws : List PyData), gv 0 v := by
    intro v hv
    rcases List.mem_append.mp hv with hv | hv
    · simp only [List.mem_cons, List.not_mem_nil, or_false] at hv
      rcases hv with rfl | rfl | rfl | rfl | rfl | rfl | rfl | rfl
      · exact gv_sv svL
      · exact gv_far lF fun x hx => by have := eF x hx; omega
      · refine gv_sv ?_
        simp only [sv]
        exact ⟨by rw [List.length_map]; omega, fun d hd => (svT d hd).1⟩
      · refine gv_sv ?_
        simp only [sv]
        exact ⟨by rw [List.length_reverse, List.length_map]; omega, fun d hd => (svT d (List.mem_reverse.mp hd)).1⟩
      · exact gv_sv sv_none
      · exact gv_sv (sv_int (by decide))
      · exact gv_sv (by simp [sv])
      · refine gv_sv ?_
        simp only [sv]
        refine ⟨by simp, fun d hd => ?_⟩
        simp only [List.mem_singleton] at hd
        subst hd
        simp [sv]
    · exact gv_sv (hw v hv)
  simp only [List.cons_append, List.nil_append] at hvs hx
  generalize (.list (TT.map entD) :: .list (TF.map entD) :: .tuple (TT.map entD) :: .list (TT.map entD).reverse :: .none :: .int 0 :: .list [] :: .list [.tuple [.int 0, .int 0, .int 0]] :: ws : List PyData) = vs at hx hvs
  generalize hF : forGo _ _ _ _ = F at hx
  obtain ⟨r1, e1, x6, x9, x10, x11, rfl⟩ := for_run hF (enc := fun d => d) (ys := vs) (by simp) (fun r => ∃ x6 x9 x10 x11, r = eQ e hs bs ds TT TF q x6 x9 x10 x11) ⟨none, none, none, none, by simp [eQ]⟩ (by
    rintro v hv r ⟨x6, x9, x10, x11, rfl⟩
    have g := hvs v hv
    have hzz : ∀ vs, seqD v = some vs → vs.length ≤ sizeLine := fun vs h => by have := (g.sz vs h).1; unfold sizeLine; omega
    have a1 := c__law_is_table e he hs bs ds l2 l3' v g.ok hzz (n + 5)
    have a2 := c_is_table e he hs bs ds v n hpr g.ok.nd hzz
    have a3 : biE .repr [.val v] = some (.val (.str v.shown)) := biE_repr (by simp) g.rp
    refine ⟨eQ e hs bs ds TT TF q (some (.val v)) x9 x10 x11, by simp [eQ], ?_⟩
    refine run_sq ⟨eQ e hs bs ds TT TF q (some (.val v)) x9 (some (.val (.bool (isTab e.am.length (gvR e.am bs) (tkR e.am ds) v)))) (some (.val (.str v.shown))), by simp [eQ, a1, a3], ?_⟩
    by_cases ht : isTab e.am.length (gvR e.am bs) (tkR e.am ds) v = true
    · obtain ⟨T, hT, hTe, hTr⟩ := isTab_inv ht
      have b1 := c__law_table_cost e he v hT hTe (n + 6)
      have b2 := c_table_cost e he hs bs ds v n hpr g.ok.nd hzz ht hT
      have b3 := tcost_ge (wy := e.wy) (hs := hs) (T := T) (fun w hw => by have := he.wy w hw; omega) (by omega) (fun x hx => by have := hTe x hx; omega) (tab_hauls l2 l3' hh hTr)
      have b4 : ¬ tcost e.wy T < hcost e.wy hs := by omega
      have sT := g.sz _ hT
      have b5 := tcost_bd he (T := T) (by have := sT.1; rwa [List.length_map] at this) (fun x hx => sT.2 _ (List.mem_map.mpr ⟨x, hx, rfl⟩))
      have b6 := rep_two (a := .bool true) (b := .int (tcost e.wy T)) (by simp) ⟨by simp only [PyData.showable], by simp only [PyData.showable]; exact decide_eq_true (log_ok (by omega))⟩ (by simp [PyData.depth]) (by simp [mz])
      rw [ht] at a2 ⊢
      refine run_sq ⟨eQ e hs bs ds TT TF q (some (.val v)) (some (.val (.int (tcost e.wy T)))) (some (.val (.bool true))) (some (.val (.str v.shown))), by simp [eQ, b1], ?_⟩
      refine run_sq ⟨eQ e hs bs ds TT TF q (some (.val v)) (some (.val (.int (tcost e.wy T)))) (some (.val (.bool true))) (some (.val (.str v.shown))), by simp [eQ, b4], ?_⟩
      refine run_sq ⟨eQ e hs bs ds TT TF q (some (.val v)) (some (.val (.int (tcost e.wy T)))) (some (.val (.bool true))) (some (.val (.str v.shown))), by simp [eQ, a2, b2, b6], ?_⟩
      refine run_sq ⟨eQ e hs bs ds TT TF q (some (.val v)) (some (.val (.int (tcost e.wy T)))) (some (.val (.bool true))) (some (.val (.str v.shown))), by simp [eQ, a2, a3, b2, b6, permL], ?_⟩
      exact run_nop ⟨_, _, _, _, rfl⟩
    · have ht := (Bool.not_eq_true _).mp ht
      have b2 := c_table_cost_no e he hs bs ds v n hpr g.ok.nd hzz ht
      have b6 := rep_two (a := .bool false) (b := .none) (by simp) (by simp only [PyData.showable, and_self]) (by simp [PyData.depth]) (by simp [mz])
      rw [ht] at a2 ⊢
      refine run_sq ⟨eQ e hs bs ds TT TF q (some (.val v)) (some (.val .none)) (some (.val (.bool false))) (some (.val (.str v.shown))), by simp [eQ], ?_⟩
      refine run_sq ⟨eQ e hs bs ds TT TF q (some (.val v)) (some (.val .none)) (some (.val (.bool false))) (some (.val (.str v.shown))), by simp [eQ], ?_⟩
      refine run_sq ⟨eQ e hs bs ds TT TF q (some (.val v)) (some (.val .none)) (some (.val (.bool false))) (some (.val (.str v.shown))), by simp [eQ, a2, b2, b6], ?_⟩
      refine run_sq ⟨eQ e hs bs ds TT TF q (some (.val v)) (some (.val .none)) (some (.val (.bool false))) (some (.val (.str v.shown))), by simp [eQ, a2, a3, b2, b6, permL], ?_⟩
      exact run_nop ⟨_, _, _, _, rfl⟩)
  rw [e1] at hx
  refine ⟨_, hx, ?_⟩
  exact ⟨q, hq, by simp [eQ, rE]⟩
end K91

end
section
set_option maxHeartbeats 4000000
/-! K91P: the plain law. -/
namespace K91
open PySem Mi Pl Er
theorem plain (ns : List Int) (n : Nat) : cl gl Ps (n + 9) 42 [.scr ns] = some (.val (.bool true), [none]) := by
  have key : ∀ x, x = cl gl Ps (n + 9) 42 [.scr ns] → x = some (.val (.bool true), [none]) := by
    intro x hx
    have hr : rngE [.val (.int (max 1 (min 3 (ns.length : Int))))] = some ((List.range (max 1 (min 3 (ns.length : Int))).toNat).map fun i => PyData.int (i : Nat)) := rngE_int (by omega) (by omega)
    rw [r_law] at hx
    simp [s_law, hr] at hx
    generalize hF : forGo _ _ _ _ = F at hx
    obtain ⟨r1, e1, x1, x2, rfl⟩ := for_run hF rfl (fun r => ∃ x1 x2, r = [some (.scr ns), x1, x2]) ⟨none, none, rfl⟩ (by
      rintro k hk r ⟨x1, x2, rfl⟩
      rw [List.mem_range] at hk
      have hk3 : k ≤ 1000 := by omega
      obtain ⟨p, hp, cp⟩ := c__law_pot ns k hk3 (n + 7)
      obtain ⟨e, p1, he, hp1, ce⟩ := c__law_earth p hp 5 (by decide) (by decide) (n + 6)
      obtain ⟨p2, hp2, cr⟩ := c__law_right e he p1 hp1 n
      obtain ⟨e2, p3, he2, hp3, ce2⟩ := c__law_great p2 hp2 (n + 5)
      obtain ⟨p4, hp4, cr2⟩ := c__law_right e2 he2 p3 hp3 n
      have ce' : cl gl Ps (n + 8) 28 [potO p, .val (.int 5)] = some (.val (eD e), [some (potO p1), none]) := ce
      refine ⟨_, by simp <;> rfl, ?_⟩
      refine run_sq ⟨_, by simp [cp] <;> rfl, ?_⟩
      refine run_sq ⟨_, by simp [ce', cr, ce2, cr2] <;> rfl, ?_⟩
      exact run_nop ⟨_, _, rfl⟩)
    rw [e1] at hx
    simp at hx
    exact hx
  exact key _ rfl
end K91

end
section
set_option maxHeartbeats 1000000
/-! Mi3: data in the abstract heap. -/
namespace Mi
open PySem L2

abbrev Fz := Addr → Prop

section
variable (K : PySem.W.Frag) (L : Nat → Addr → Prop) (F : Fz) (H : Hp)
mutual
/-- v is the plain data d; its lists are frozen -/
def Rp : D → V → Prop
  | .none, v => v = .non
  | .bool b, v => v = .bl b
  | .int i, v => v = .int i
  | .str x, v => v = .str x
  | .list ds, v => ∃ a xs, v = .ref a ∧ H a = some (.lst xs) ∧ F a ∧ RpL ds xs
  | .tuple ds, v => ∃ a xs, v = .ref a ∧ SqT K H a xs ∧ RpL ds xs
  | .dict _, _ => False
def RpL : List D → List V → Prop
  | [], xs => xs = []
  | d :: ds, xs => ∃ x ys, xs = x :: ys ∧ Rp d x ∧ RpL ds ys
end
/-- the script -/
def Scr (a : Addr) (ns : List Int) : Prop := (∃ o, H a = some (.frz o (.lst (ns.map V.int)))) ∨
  ∃ (o : Obj) (its : Array Value) (n : Nat), K.lookup a = some o ∧ o.cls = .type "list" ∧ o.dict = none ∧ o.data = .seq its n ∧ its.size ≤ sizeLine ∧ Vals (ns.map V.int) its.toList
mutual
/-- v is o, whose owned lists stand at A -/
def RO : O → V → List Addr → Prop
  | .val d, v, A => Rp K F H d v ∧ A = []
  | .lst os, v, A => ∃ a xs A1, v = .ref a ∧ H a = some (.lst xs) ∧ ROL os xs A1 ∧ A = a :: A1
  | .tup os, v, A => ∃ a xs, v = .ref a ∧ SqT K H a xs ∧ ROL os xs A
  | .fn k, v, A => ∃ f, v = .ref f ∧ L k f ∧ A = []
  | .scr ns, v, A => ∃ a, v = .ref a ∧ Scr K H a ns ∧ A = []
def ROL : List O → List V → List Addr → Prop
  | [], xs, A => xs = [] ∧ A = []
  | o :: os, xs, A => ∃ x ys A1 A2, xs = x :: ys ∧ RO o x A1 ∧ ROL os ys A2 ∧ A = A1 ++ A2
end
/-- the names' values -/
def EnvR : En → St → List Addr → Prop
  | [], σ, B => σ = [] ∧ B = []
  | none :: r, σ, B => ∃ x σ', σ = x :: σ' ∧ EnvR r σ' B
  | some o :: r, σ, B => ∃ v σ' A B1, σ = some v :: σ' ∧ RO K L F H o v A ∧ EnvR r σ' B1 ∧ B = A ++ B1
end

/-- what is not owned and stands stays -/
structure Kept (A : List Addr) (F : Fz) (H H' : Hp) : Prop where
  fz : ∀ a u, F a → H a = some u → H' a = some u
  tp : ∀ a xs, H a = some (.tup xs) → H' a = some (.tup xs)
  fr : ∀ a o u, H a = some (.frz o u) → H' a = some (.frz o u)
  ow : ∀ a u, a ∈ A → H a = some u → H' a = some u

section
variable {K : PySem.W.Frag} {L : Nat → Addr → Prop} {F F' : Fz} {H H' : Hp}
theorem SqT.keep {a : Addr} {xs : List V} (tp : ∀ a xs, H a = some (.tup xs) → H' a = some (.tup xs)) (fr : ∀ a o u, H a = some (.frz o u) → H' a = some (.frz o u)) (h : SqT K H a xs) : SqT K H' a xs := by
  rcases h with (h | ⟨o, h⟩) | h
  · exact .inl (.inl (tp _ _ h))
  · exact .inl (.inr ⟨o, fr _ _ _ h⟩)
  · exact .inr h
theorem Scr.keep {a : Addr} {ns : List Int} (fr : ∀ a o u, H a = some (.frz o u) → H' a = some (.frz o u)) (h : Scr K H a ns) : Scr K H' a ns := by
  rcases h with ⟨o, h⟩ | h
  · exact .inl ⟨o, fr _ _ _ h⟩
  · exact .inr h
theorem Scr.seq {a : Addr} {ns : List Int} (h : Scr K H a ns) : SqL K H a (ns.map V.int) := by
  rcases h with ⟨o, h⟩ | h
  · exact .inl (.inr ⟨o, h⟩)
  · exact .inr h
mutual
theorem Rp.keep (hF : ∀ a, F a → F' a) (k : Kept [] F H H') : ∀ (d : D) (v : V), Rp K F H d v → Rp K F' H' d v
  | .none, _, h => h
  | .bool _, _, h => h
  | .int _, _, h => h
  | .str _, _, h => h
  | .list ds, _, h => by
    simp only [Rp] at h ⊢
    obtain ⟨a, xs, rfl, h1, h2, h3⟩ := h
    exact ⟨a, xs, rfl, k.fz _ _ h2 h1, hF _ h2, RpL.keep hF k ds xs h3⟩
  | .tuple ds, _, h => by
    simp only [Rp] at h ⊢
    obtain ⟨a, xs, rfl, h1, h3⟩ := h
    exact ⟨a, xs, rfl, SqT.keep k.tp k.fr h1, RpL.keep hF k ds xs h3⟩
  | .dict _, _, h => by simp only [Rp] at h
theorem RpL.keep (hF : ∀ a, F a → F' a) (k : Kept [] F H H') : ∀ (ds : List D) (xs : List V), RpL K F H ds xs → RpL K F' H' ds xs
  | [], _, h => h
  | d :: ds, _, h => by
    simp only [RpL] at h ⊢
    obtain ⟨x, ys, rfl, h1, h2⟩ := h
    exact ⟨x, ys, rfl, Rp.keep hF k d x h1, RpL.keep hF k ds ys h2⟩
end
theorem Kept.sub {A A' : List Addr} (k : Kept A F H H') (h : ∀ a ∈ A', a ∈ A) : Kept A' F H H' := ⟨k.fz, k.tp, k.fr, fun a u ha e => k.ow a u (h a ha) e⟩
mutual
theorem RO.keep (hF : ∀ a, F a → F' a) : ∀ (o : O) (v : V) (A : List Addr), Kept A F H H' → RO K L F H o v A → RO K L F' H' o v A
  | .val d, v, A, k, h => by
    simp only [RO] at h ⊢
    exact ⟨Rp.keep hF (k.sub (by simp)) d v h.1, h.2⟩
  | .lst os, v, A, k, h => by
    simp only [RO] at h ⊢
    obtain ⟨a, xs, A1, rfl, h1, h2, rfl⟩ := h
    exact ⟨a, xs, A1, rfl, k.ow _ _ (by simp) h1, ROL.keep hF os xs A1 (k.sub fun b hb => by simp [hb]) h2, rfl⟩
  | .tup os, v, A, k, h => by
    simp only [RO] at h ⊢
    obtain ⟨a, xs, rfl, h1, h2⟩ := h
    exact ⟨a, xs, rfl, SqT.keep k.tp k.fr h1, ROL.keep hF os xs A k h2⟩
  | .fn n, v, A, k, h => by
    simp only [RO] at h ⊢
    exact h
  | .scr ns, v, A, k, h => by
    simp only [RO] at h ⊢
    obtain ⟨a, rfl, h1, h2⟩ := h
    exact ⟨a, rfl, Scr.keep k.fr h1, h2⟩
theorem ROL.keep (hF : ∀ a, F a → F' a) : ∀ (os : List O) (xs : List V) (A : List Addr), Kept A F H H' → ROL K L F H os xs A → ROL K L F' H' os xs A
  | [], _, _, _, h => h
  | o :: os, xs, A, k, h => by
    simp only [ROL] at h ⊢
    obtain ⟨x, ys, A1, A2, rfl, h1, h2, rfl⟩ := h
    exact ⟨x, ys, A1, A2, rfl, RO.keep hF o x A1 (k.sub fun b hb => by simp [hb]) h1, ROL.keep hF os ys A2 (k.sub fun b hb => by simp [hb]) h2, rfl⟩
end
theorem EnvR.keep (hF : ∀ a, F a → F' a) : ∀ (r : En) (σ : St) (B : List Addr), Kept B F H H' → EnvR K L F H r σ B → EnvR K L F' H' r σ B
  | [], _, _, _, h => h
  | none :: r, σ, B, k, h => by
    simp only [EnvR] at h ⊢
    obtain ⟨x, σ', rfl, h1⟩ := h
    exact ⟨x, σ', rfl, EnvR.keep hF r σ' B k h1⟩
  | some o :: r, σ, B, k, h => by
    simp only [EnvR] at h ⊢
    obtain ⟨v, σ', A, B1, rfl, h1, h2, rfl⟩ := h
    exact ⟨v, σ', A, B1, rfl, RO.keep hF o v A (k.sub fun b hb => by simp [hb]) h1, EnvR.keep hF r σ' B1 (k.sub fun b hb => by simp [hb]) h2, rfl⟩
/-! ### owned places hold lists -/
mutual
theorem RO.own : ∀ (o : O) (v : V) (A : List Addr), RO K L F H o v A → ∀ a ∈ A, ∃ xs, H a = some (.lst xs)
  | .val d, v, A, h => by
    simp only [RO] at h
    rw [h.2]; intro a ha; simp at ha
  | .lst os, v, A, h => by
    simp only [RO] at h
    obtain ⟨a, xs, A1, rfl, h1, h2, rfl⟩ := h
    intro b hb
    rcases List.mem_cons.mp hb with rfl | hb
    · exact ⟨xs, h1⟩
    · exact ROL.own os xs A1 h2 b hb
  | .tup os, v, A, h => by
    simp only [RO] at h
    obtain ⟨a, xs, rfl, h1, h2⟩ := h
    exact ROL.own os xs A h2
  | .fn n, v, A, h => by
    simp only [RO] at h
    obtain ⟨f, _, _, rfl⟩ := h
    intro a ha; simp at ha
  | .scr ns, v, A, h => by
    simp only [RO] at h
    obtain ⟨a, _, _, rfl⟩ := h
    intro a ha; simp at ha
theorem ROL.own : ∀ (os : List O) (xs : List V) (A : List Addr), ROL K L F H os xs A → ∀ a ∈ A, ∃ xs, H a = some (.lst xs)
  | [], _, _, h => by
    simp only [ROL] at h
    rw [h.2]; intro a ha; simp at ha
  | o :: os, xs, A, h => by
    simp only [ROL] at h
    obtain ⟨x, ys, A1, A2, rfl, h1, h2, rfl⟩ := h
    intro a ha
    rcases List.mem_append.mp ha with ha | ha
    · exact RO.own o x A1 h1 a ha
    · exact ROL.own os ys A2 h2 a ha
end
theorem EnvR.own : ∀ (r : En) (σ : St) (B : List Addr), EnvR K L F H r σ B → ∀ a ∈ B, ∃ xs, H a = some (.lst xs)
  | [], _, _, h => by
    simp only [EnvR] at h
    rw [h.2]; intro a ha; simp at ha
  | none :: r, σ, B, h => by
    simp only [EnvR] at h
    obtain ⟨x, σ', rfl, h1⟩ := h
    exact EnvR.own r σ' B h1
  | some o :: r, σ, B, h => by
    simp only [EnvR] at h
    obtain ⟨v, σ', A, B1, rfl, h1, h2, rfl⟩ := h
    intro a ha
    rcases List.mem_append.mp ha with ha | ha
    · exact RO.own o v A h1 a ha
    · exact EnvR.own r σ' B1 h2 a ha
theorem EnvR.len : ∀ (r : En) (σ : St) (B : List Addr), EnvR K L F H r σ B → r.length = σ.length
  | [], _, _, h => by
    simp only [EnvR] at h
    rw [h.1]; rfl
  | none :: r, σ, B, h => by
    simp only [EnvR] at h
    obtain ⟨x, σ', rfl, h1⟩ := h
    simp [EnvR.len r σ' B h1]
  | some o :: r, σ, B, h => by
    simp only [EnvR] at h
    obtain ⟨v, σ', A, B1, rfl, h1, h2, rfl⟩ := h
    simp [EnvR.len r σ' B1 h2]
/-- one slot by itself: the rest takes any other content there -/
theorem EnvR.slot : ∀ (r : En) (σ : St) (B : List Addr) (i : Nat), EnvR K L F H r σ B → i < r.length → ∃ B1 A B2, B = B1 ++ A ++ B2 ∧
    (∀ o, r[i]? = some (some o) → ∃ v, σ[i]? = some (some v) ∧ RO K L F H o v A) ∧ (r[i]? = some none → A = []) ∧
    ∀ (F' : Fz) (H' : Hp), (∀ a, F a → F' a) → Kept (B1 ++ B2) F H H' →
      (∀ v' o' A', RO K L F' H' o' v' A' → EnvR K L F' H' (r.set i (some o')) (σ.set i (some v')) (B1 ++ A' ++ B2)) ∧ ∀ x, EnvR K L F' H' (r.set i none) (σ.set i x) (B1 ++ B2)
  | [], _, _, _, _, h => by simp at h
  | none :: r, σ, B, 0, h, _ => by
    simp only [EnvR] at h
    obtain ⟨x, σ', rfl, h1⟩ := h
    refine ⟨[], [], B, by simp, fun o e => by simp at e, fun _ => rfl, fun F' H' hF k => ⟨fun v' o' A' ho => ?_, fun y => ?_⟩⟩
    · simp only [List.set_cons_zero, EnvR]
      exact ⟨v', σ', A', B, rfl, ho, EnvR.keep hF r σ' B (k.sub fun b hb => by simp [hb]) h1, by simp⟩
    · simp only [List.set_cons_zero, EnvR]
      exact ⟨y, σ', rfl, by simpa using EnvR.keep hF r σ' B (k.sub fun b hb => by simp [hb]) h1⟩
  | some o :: r, σ, B, 0, h, _ => by
    simp only [EnvR] at h
    obtain ⟨v, σ', A, B1, rfl, h1, h2, rfl⟩ := h
    refine ⟨[], A, B1, by simp, fun o' e => ?_, fun e => by simp at e, fun F' H' hF k => ⟨fun v' o' A' ho => ?_, fun y => ?_⟩⟩
    · simp at e; subst e; exact ⟨v, rfl, h1⟩
    · simp only [List.set_cons_zero, EnvR]
      exact ⟨v', σ', A', B1, rfl, ho, EnvR.keep hF r σ' B1 (k.sub fun b hb => by simp [hb]) h2, by simp⟩
    · simp only [List.set_cons_zero, EnvR]
      exact ⟨y, σ', rfl, by simpa using EnvR.keep hF r σ' B1 (k.sub fun b hb => by simp [hb]) h2⟩
  | none :: r, σ, B, i + 1, h, hi => by
    simp only [EnvR] at h
    obtain ⟨x, σ', rfl, h1⟩ := h
    obtain ⟨B1, A, B2, e, g1, g2, g3⟩ := EnvR.slot r σ' B i h1 (by simpa using hi)
    refine ⟨B1, A, B2, e, fun o eo => ?_, fun eo => g2 (by simpa using eo), fun F' H' hF k => ⟨fun v' o' A' ho => ?_, fun y => ?_⟩⟩
    · obtain ⟨v, e1, e2⟩ := g1 o (by simpa using eo)
      exact ⟨v, by simpa using e1, e2⟩
    · simp only [List.set_cons_succ, EnvR]
      exact ⟨x, _, rfl, (g3 F' H' hF k).1 v' o' A' ho⟩
    · simp only [List.set_cons_succ, EnvR]
      exact ⟨x, _, rfl, (g3 F' H' hF k).2 y⟩
  | some o :: r, σ, B, i + 1, h, hi => by
    simp only [EnvR] at h
    obtain ⟨v, σ', A0, B0, rfl, h1, h2, rfl⟩ := h
    obtain ⟨B1, A, B2, e, g1, g2, g3⟩ := EnvR.slot r σ' B0 i h2 (by simpa using hi)
    refine ⟨A0 ++ B1, A, B2, by simp [e], fun o eo => ?_, fun eo => g2 (by simpa using eo), fun F' H' hF k => ⟨fun v' o' A' ho => ?_, fun y => ?_⟩⟩
    · obtain ⟨v, e1, e2⟩ := g1 o (by simpa using eo)
      exact ⟨v, by simpa using e1, e2⟩
    · simp only [List.set_cons_succ, EnvR]
      exact ⟨v, _, A0, _, rfl, RO.keep hF o v A0 (k.sub fun b hb => by simp [hb]) h1, (g3 F' H' hF (k.sub fun b hb => by
        rcases List.mem_append.mp hb with hb | hb <;> simp [hb])).1 v' o' A' ho, by simp⟩
    · simp only [List.set_cons_succ, EnvR]
      exact ⟨v, _, A0, _, rfl, RO.keep hF o v A0 (k.sub fun b hb => by simp [hb]) h1, (g3 F' H' hF (k.sub fun b hb => by
        rcases List.mem_append.mp hb with hb | hb <;> simp [hb])).2 y, by simp⟩
end
end Mi

end
section
set_option maxHeartbeats 1000000
/-! Mi4: which text a term stands for; states; what a term's run leaves. -/
namespace Mi
open PySem L2

/-! ### the text -/
def visB (sc : Scope) (x : Str) : Bool := match sc.names.lookup x with
  | some .local => true
  | some .cell => true
  | some .free => true
  | _ => false
def locB (sc : Scope) (x : Str) : Bool := match sc.names.lookup x with
  | some .local => true
  | some .cell => true
  | _ => false
def gloB (sc : Scope) (x : Str) : Bool := match sc.names.lookup x with
  | some .globalImplicit => true
  | _ => false
def nameOk (x : Str) : Bool := !(x == ("__debug__" : Str)) && !(x == ("__classdict__" : Str)) && decide (x ≠ ("__name__" : Str))
def plainE : Expr → Bool
  | .Starred _ _ => false
  | _ => true
def conB : D → Const → Bool
  | .none, .none => true
  | .bool a, .bool b => a == b
  | .int i, .int j => decide (i = j)
  | .str x, .str y => decide (x = y)
  | _, _ => false
def bopB : Bop → Operator → Bool
  | .add, .Add => true | .sub, .Sub => true | .mul, .Mult => true | .fdiv, .FloorDiv => true | .mod, .Mod => true | .pow, .Pow => true
  | _, _ => false
def copB : Cop → CmpOp → Bool
  | .eq, .Eq => true | .ne, .NotEq => true | .lt, .Lt => true | .le, .LtE => true | .gt, .Gt => true | .ge, .GtE => true
  | .is_, .Is => true | .isnt, .IsNot => true | .inn, .In => true | .notin, .NotIn => true
  | _, _ => false
def biName : Bi → Str
  | .len => "len" | .abs => "abs" | .max2 => "max" | .min2 => "min" | .max1 => "max" | .min1 => "min" | .sum => "sum" | .all => "all" | .any => "any"
  | .divmod => "divmod" | .int => "int" | .list => "list" | .tuple => "tuple" | .sorted => "sorted" | .repr => "repr" | .str => "str"
def biAr : Bi → Nat
  | .max2 => 2 | .min2 => 2 | .divmod => 2 | _ => 1
/-- it may be a test -/
def T.tst : T → Bool
  | .ife _ _ _ => false
  | .not a => a.tst
  | .and a b => a.tst && b.tst
  | .or a b => a.tst && b.tst
  | _ => true
def T.isYes : T → Bool
  | .con (.bool true) => true
  | _ => false
def plBase : Expr → Bool
  | .Name _ _ => true
  | .Subscript _ _ _ => true
  | _ => false
def srcB (sc : Scope) (fr : List Str) (k : Sk) (iter tg : Expr) (f : Expr → Bool) (fs : List Expr → Bool) : Bool := match k with
  | .seq => (match iter with
    | .Set _ _ _ => false
    | _ => f iter)
  | .enm => (match iter, tg with
    | .Call (.Name x _) [a] [] _, .Tuple _ _ _ => decide (x = ("enumerate" : Str)) && gloB sc x && nameOk x && fr.contains x && f a
    | _, _ => false)
  | .rng => (match iter with
    | .Call (.Name x _) es [] _ => decide (x = ("range" : Str)) && gloB sc x && nameOk x && fr.contains x && fs es
    | _ => false)
  | .zip => (match iter, tg with
    | .Call (.Name x _) es [] _, .Tuple _ _ _ => decide (x = ("zip" : Str)) && gloB sc x && nameOk x && fr.contains x && fs es
    | _, _ => false)
def prtB (lo : T) (f : Expr → Bool) : Option Expr → Bool
  | none => lo.isNil
  | some e => f e
def clsE (sc : Scope) (fr : List Str) (c : String) : Expr → Bool
  | .Name x _ => decide (x = Str.ofString c) && gloB sc x && nameOk x && fr.contains x && ["int", "bool", "str", "tuple", "list", "dict"].contains c
  | _ => false
def clsEs (sc : Scope) (fr : List Str) : List String → List Expr → Bool
  | [], [] => true
  | c :: cs, e :: es => clsE sc fr c e && clsEs sc fr cs es
  | _, _ => false

/-- how a def binds a call with keywords: its number, how many stand by place, the keywords, each parameter's place among the values -/
abbrev Kwt := List (Nat × Nat × List Str × List Nat)
section
variable (N : List Str) (nm : List Str) (fr : List Str) (gl : List (Str × D)) (kw : Kwt)
mutual
def mtg (sc : Scope) : G → Expr → Bool
  | .nm i, .Name x _ => decide (N[i]? = some x) && locB sc x && nameOk x
  | .tp gs, .Tuple es _ _ => mtgs sc gs es && decide (es.length = gs.len)
  | _, _ => false
def mtgs (sc : Scope) : G → List Expr → Bool
  | .nil, [] => true
  | .cons g gs, e :: es => mtg sc g e && mtgs sc gs es
  | _, _ => false
end
mutual
def mt (sc : Scope) : T → Expr → Bool
  | .var i, e => (match e with
    | .Name x _ => decide (N[i]? = some x) && visB sc x && nameOk x
    | _ => false)
  | .con d, e => (match e with
    | .Constant c _ _ => conB d c
    | _ => false)
  | .glo j, e => (match e with
    | .Name x _ => decide ((gl[j]?).map (·.1) = some x) && gloB sc x && nameOk x
    | _ => false)
  | .fn k, e => (match e with
    | .Name x _ => decide (nm[k]? = some x) && gloB sc x && nameOk x
    | _ => false)
  | .bin op a b, e => (match e with
    | .BinOp x o y _ => bopB op o && mt sc a x && mt sc b y
    | _ => false)
  | .not a, e => (match e with
    | .UnaryOp .Not x _ => mt sc a x
    | _ => false)
  | .neg a, e => (match e with
    | .UnaryOp .USub x _ => mt sc a x
    | _ => false)
  | .and a b, e => (match e with
    | .BoolOp .And (x :: y :: rest) pos => mt sc a x && (match rest with
    | [] => mt sc b y
    | _ => mt sc b (.BoolOp .And (y :: rest) pos))
    | _ => false)
  | .or a b, e => (match e with
    | .BoolOp .Or (x :: y :: rest) pos => mt sc a x && (match rest with
    | [] => mt sc b y
    | _ => mt sc b (.BoolOp .Or (y :: rest) pos))
    | _ => false)
  | .cmp op a b, e => (match e with
    | .Compare x [o] [y] _ => copB op o && mt sc a x && mt sc b y && !(behindInMarks o y)
    | _ => false)
  | .cmp2 p q a b c, e => (match e with
    | .Compare x [o1, o2] [y, z] _ => copB p o1 && copB q o2 && mt sc a x && mt sc b y && mt sc c z && !(lastMarks [o1, o2] [y, z])
    | _ => false)
  | .ife c a b, e => (match e with
    | .IfExp t x y _ => c.tst && mt sc c t && mt sc a x && mt sc b y
    | _ => false)
  | .tup as, e => (match e with
    | .Tuple es _ _ => mts sc as es
    | _ => false)
  | .lst as, e => (match e with
    | .List es _ => mts sc as es
    | _ => false)
  | .idx a b, e => (match e with
    | .Subscript x y _ => mt sc a x && mt sc b y
    | _ => false)
  | .slc a lo hi, e => (match e with
    | .Subscript x (.Slice l h none _) _ => mt sc a x && prtB lo (fun u => mt sc lo u) l && prtB hi (fun u => mt sc hi u) h
    | _ => false)
  | .rev a, e => (match e with
    | .Subscript x (.Slice none none (some (.UnaryOp .USub (.Constant (.int 1) _ _) _)) _) _ => mt sc a x
    | _ => false)
  | .lc e g k it c own, ee => (match ee with
    | .ListComp elt [⟨tg, iter, ifs, 0⟩] scope _ => srcB sc fr k iter tg (fun u => mt sc it u) (fun us => mts sc it us) && blkC N sc scope own && mtg N scope g tg && g.slots.all (fun i => (own.map (·.2)).contains i) && (match ifs with
    | [] => c.isYes
    | [x] => c.tst && mt (relS scope sc) c x
    | _ => false) && mt (relS scope sc) e elt
    | _ => false)
  | .call k as, e => (match e with
    | .Call (.Name x _) es [] _ => decide (nm[k]? = some x) && gloB sc x && nameOk x && mts sc as es
    | _ => false)
  | .bi b as, e => (match e with
    | .Call (.Name x _) es [] _ => decide (x = biName b) && gloB sc x && nameOk x && fr.contains x && mts sc as es && decide (es.length = biAr b)
    | _ => false)
  | .isi a cs, e => (match e with
    | .Call (.Name x _) [y, z] [] _ => decide (x = ("isinstance" : Str)) && gloB sc x && nameOk x && fr.contains x && mt sc a y && (match cs with
    | [c] => clsE sc fr c z
    | _ => (match z with
      | .Tuple es _ _ => clsEs sc fr cs es && decide (es.length ≤ 100)
      | _ => false))
    | _ => false)
  | .lrg a, e => (match e with
    | .Call (.Name x _) [.Call (.Name y _) [u] [] _] [] _ => decide (x = ("list" : Str)) && gloB sc x && nameOk x && fr.contains x && decide (y = ("range" : Str)) && gloB sc y && nameOk y && fr.contains y && mt sc a u
    | _ => false)
  | .lrg2 a b, e => (match e with
    | .Call (.Name x _) [.Call (.Name y _) [u, v] [] _] [] _ => decide (x = ("list" : Str)) && gloB sc x && nameOk x && fr.contains x && decide (y = ("range" : Str)) && gloB sc y && nameOk y && fr.contains y && mt sc a u && mt sc b v
    | _ => false)
  | .app o a, e => (match e with
    | .Call (.Attribute x m apos) [y] [] cpos => decide (m = ("append" : Str)) && mt sc o x && mt sc a y && plBase x && (apos.endLine == cpos.line)
    | _ => false)
  | .ext o a, e => (match e with
    | .Call (.Attribute x m apos) [y] [] cpos => decide (m = ("extend" : Str)) && mt sc o x && mt sc a y && plBase x && (apos.endLine == cpos.line)
    | _ => false)
  | .pop o, e => (match e with
    | .Call (.Attribute x m apos) [] [] cpos => decide (m = ("pop" : Str)) && mt sc o x && plBase x && (apos.endLine == cpos.line)
    | _ => false)
  | .popi o a, e => (match e with
    | .Call (.Attribute x m apos) [y] [] cpos => decide (m = ("pop" : Str)) && mt sc o x && mt sc a y && plBase x && (apos.endLine == cpos.line)
    | _ => false)
  | .callk k as ks kn pm, e => (match e with
    | .Call (.Name x _) es kws _ => decide (nm[k]? = some x) && gloB sc x && nameOk x && mts sc as es && mtk sc ks kn kws && decide ((k, es.length, kn, pm) ∈ kw)
    | _ => false)
  | .nil, _ => false
  | .cons _ _, _ => false
  | .ino _, _ => false
def mts (sc : Scope) : T → List Expr → Bool
  | .nil, es => es.isEmpty
  | .cons (.ino i) s, l => (match l with
    | .Name x _ :: es => decide (N[i]? = some x) && visB sc x && nameOk x && mts sc s es
    | _ => false)
  | .cons a s, l => (match l with
    | e :: es => plainE e && mt sc a e && mts sc s es
    | _ => false)
  | _, _ => false
def mtk (sc : Scope) : T → List Str → List Keyword → Bool
  | .nil, ks, kws => ks.isEmpty && kws.isEmpty
  | .cons a s, ks, kws => (match ks, kws with
    | k :: ks, ⟨some x, e, _⟩ :: kws => decide (x = k) && mt sc a e && mtk sc s ks kws
    | _, _ => false)
  | _, _, _ => false
end
end
theorem mt_con0 {N nm fr gl kw sc d c k p} : Mi.mt N nm fr gl kw sc (.con d) (.Constant c k p) = conB d c := by simp only [Mi.mt]
theorem mts_con0 {N nm fr gl kw sc} {l : List Expr} : Mi.mts N nm fr gl kw sc .nil l = l.isEmpty := by simp only [Mi.mts]
theorem mtk_con0 {N nm fr gl kw sc} {l : List Str} {j : List Keyword} : Mi.mtk N nm fr gl kw sc .nil l j = (l.isEmpty && j.isEmpty) := by simp only [Mi.mtk]
end Mi

end
section
set_option maxHeartbeats 1000000
/-! Mi5: states, what a run leaves, promises. -/
namespace Mi
open PySem L2

/-- owned places and frozen ones -/
structure Stt (K : PySem.W.Frag) (L : Nat → Addr → Prop) (F : Fz) (H : Hp) (r : En) (σ : St) (B : List Addr) : Prop where
  env : EnvR K L F H r σ B
  nd : B.Nodup
  df : ∀ a ∈ B, ¬ F a
  dm : ∀ a, F a → ∃ u, H a = some u
structure Tr (F : Fz) (B : List Addr) (H : Hp) (F' : Fz) (B' : List Addr) (H' : Hp) : Prop where
  e1 : ∀ a, F a → F' a
  e2 : ∀ a u, H a = some u → a ∉ B → H' a = some u
  e3 : ∀ a, F' a → F a ∨ a ∈ B ∨ H a = none
  nb : ∀ a ∈ B', a ∈ B ∨ H a = none
section
variable {K : PySem.W.Frag} {L : Nat → Addr → Prop} {F F1 F2 : Fz} {H H1 H2 : Hp} {r : En} {σ : St} {B B1 B2 : List Addr}
theorem Tr.refl : Tr F B H F B H := ⟨fun _ h => h, fun _ _ h _ => h, fun _ h => .inl h, fun _ h => .inl h⟩
theorem Tr.none_of (t : Tr F B H F1 B1 H1) {a : Addr} (h : H1 a = none) : a ∈ B ∨ H a = none := by
  by_cases hb : a ∈ B
  · exact .inl hb
  · cases e : H a with
    | none => exact .inr rfl
    | some u =>
      have := t.e2 a u e hb
      rw [h] at this
      cases this
theorem Tr.trans (t : Tr F B H F1 B1 H1) (u : Tr F1 B1 H1 F2 B2 H2) : Tr F B H F2 B2 H2 where
  e1 := fun a h => u.e1 a (t.e1 a h)
  e2 := fun a v h hb => by
    refine u.e2 a v (t.e2 a v h hb) fun h1 => ?_
    rcases t.nb a h1 with q | q
    · exact hb q
    · rw [h] at q; cases q
  e3 := fun a h => by
    rcases u.e3 a h with q | q | q
    · exact t.e3 a q
    · exact .inr (t.nb a q)
    · exact .inr (t.none_of q)
  nb := fun a h => by
    rcases u.nb a h with q | q
    · exact t.nb a q
    · exact t.none_of q
/-- what is not owned is kept -/
theorem Stt.lists (s : Stt K L F H r σ B) {a : Addr} (h : a ∈ B) : ∃ xs, H a = some (.lst xs) := EnvR.own r σ B s.env a h
theorem Tr.kept (t : Tr F B H F1 B1 H1) (s : Stt K L F H r σ B) {A : List Addr} (h : ∀ a ∈ A, a ∉ B) : Kept A F H H1 where
  fz := fun a u hf e => t.e2 a u e fun hb => s.df a hb hf
  tp := fun a xs e => t.e2 a _ e fun hb => by
    obtain ⟨ys, q⟩ := s.lists hb
    rw [e] at q; cases q
  fr := fun a o u e => t.e2 a _ e fun hb => by
    obtain ⟨ys, q⟩ := s.lists hb
    rw [e] at q; cases q
  ow := fun a u ha e => t.e2 a u e (h a ha)
/-- where nothing changes -/
theorem Kept.same {A : List Addr} (h : ∀ a u, H a = some u → H1 a = some u) : Kept A F H H1 := ⟨fun a u _ e => h a u e, fun a _ e => h a _ e, fun a _ _ e => h a _ e, fun a u _ e => h a u e⟩
theorem Kept.new {A : List Addr} {p : Addr} {u : HO} (h : H p = none) : Kept A F H (upd H p u) := Kept.same fun a v e => by
  rw [upd_ne (ne_of_none e h)]; exact e
theorem same_new {p : Addr} {u : HO} (h : H p = none) : ∀ a v, H a = some v → upd H p u a = some v := fun a v e => by
  rw [upd_ne (ne_of_none e h)]; exact e
theorem Stt.same (s : Stt K L F H r σ B) (h : ∀ a u, H a = some u → H1 a = some u) : Stt K L F H1 r σ B :=
  ⟨EnvR.keep (fun _ h => h) r σ B (Kept.same h) s.env, s.nd, s.df, fun a ha => let ⟨u, e⟩ := s.dm a ha; ⟨u, h a u e⟩⟩
theorem Tr.same (h : ∀ a u, H a = some u → H1 a = some u) : Tr F B H F B H1 := ⟨fun _ h => h, fun a u e _ => h a u e, fun _ h => .inl h, fun _ h => .inl h⟩
end

/-- what an expression's run leaves. q: it is quiet; pl: it was looked at in its place -/
structure Ps (K : PySem.W.Frag) (L : Nat → Addr → Prop) (q pl : Bool) (F : Fz) (B : List Addr) (H : Hp) (r' : En) (o : O) (σ : St) (v : V) (H' : Hp) (F' : Fz) (B' A : List Addr) : Prop where
  tr : Tr F B H F' B' H'
  st : Stt K L F' H' r' σ B'
  ro : RO K L F' H' o v A
  fr : pl = false → (B' ++ A).Nodup ∧ (∀ a ∈ A, ¬ F' a) ∧ ∀ a ∈ A, a ∈ B ∨ H a = none
  inb : pl = true → ∀ a ∈ A, a ∈ B'
  qt : q = true → (∀ a u, H a = some u → H' a = some u) ∧ (pl = false → ∀ a ∈ A, H a = none)
/-- the reading -/
def tR (K : PySem.W.Frag) (L : Nat → Addr → Prop) (q pl : Bool) (r : En) (res : Option (O × En)) : TE := fun σ H Q => ∃ F B o r', Stt K L F H r σ B ∧ res = some (o, r') ∧
  ∀ v H' F' B' A, Ps K L q pl F B H r' o σ v H' F' B' A → Q v H'
/-- arguments; those that the def changes stand at their names -/
def ROI (K : PySem.W.Frag) (L : Nat → Addr → Prop) (F : Fz) (H : Hp) (σ : St) : List (Option Nat) → List O → List V → List Addr → Prop
  | [], os, vs, A => os = [] ∧ vs = [] ∧ A = []
  | some i :: ns, os, vs, A => ∃ o os' v vs', os = o :: os' ∧ vs = v :: vs' ∧ σ[i]? = some (some v) ∧ ROI K L F H σ ns os' vs' A
  | none :: ns, os, vs, A => ∃ o os' v vs' A1 A2, os = o :: os' ∧ vs = v :: vs' ∧ RO K L F H o v A1 ∧ ROI K L F H σ ns os' vs' A2 ∧ A = A1 ++ A2
structure Pss (K : PySem.W.Frag) (L : Nat → Addr → Prop) (q m : Bool) (ns : List (Option Nat)) (F : Fz) (B : List Addr) (H : Hp) (r' : En) (os : List O) (σ : St) (vs : List V) (H' : Hp) (F' : Fz) (B' A : List Addr) : Prop where
  tr : Tr F B H F' B' H'
  st : Stt K L F' H' r' σ B'
  ro : ROI K L F' H' σ ns os vs A
  fr : m = true → (B' ++ A).Nodup ∧ (∀ a ∈ A, ¬ F' a) ∧ ∀ a ∈ A, a ∈ B ∨ H a = none
  qt : q = true → (∀ a u, H a = some u → H' a = some u) ∧ (m = true → ∀ a ∈ A, H a = none)
def tRs (K : PySem.W.Frag) (L : Nat → Addr → Prop) (q m : Bool) (ns : List (Option Nat)) (r : En) (res : Option (List O × En)) : TA := fun σ H Q => ∃ F B os r', Stt K L F H r σ B ∧ res = some (os, r') ∧
  ∀ vs H' F' B' A, Pss K L q m ns F B H r' os σ vs H' F' B' A → Q vs H'
/-- a test -/
def tT (K : PySem.W.Frag) (L : Nat → Addr → Prop) (q : Bool) (r : En) (res : Option (O × En)) : TT := fun σ H Q => ∃ F B b r', Stt K L F H r σ B ∧ res = some (.val (.bool b), r') ∧
  ∀ H' F' B', Tr F B H F' B' H' → Stt K L F' H' r' σ B' → (q = true → ∀ a u, H a = some u → H' a = some u) → Q b H'

/-! ### promises -/
/-- the owned results: at each changed parameter -/
def OutR (K : PySem.W.Frag) (L : Nat → Addr → Prop) (F : Fz) (H : Hp) : List (Option O) → List V → List Addr → Prop
  | [], vs, A => vs = [] ∧ A = []
  | none :: os, vs, A => ∃ v vs', vs = v :: vs' ∧ OutR K L F H os vs' A
  | some o :: os, vs, A => ∃ v vs' A1 A2, vs = v :: vs' ∧ RO K L F H o v A1 ∧ OutR K L F H os vs' A2 ∧ A = A1 ++ A2
structure Pc (K : PySem.W.Frag) (L : Nat → Addr → Prop) (F : Fz) (A : List Addr) (H : Hp) (vs : List V) (o : O) (outs : List (Option O)) (v : V) (H' : Hp) (F' : Fz) (A' C : List Addr) : Prop where
  e1 : ∀ a, F a → F' a
  e2 : ∀ a u, H a = some u → a ∉ A → H' a = some u
  e3 : ∀ a, F' a → F a ∨ a ∈ A ∨ H a = none
  dm : ∀ a, F' a → ∃ u, H' a = some u
  ro : RO K L F' H' o v A'
  out : OutR K L F' H' outs vs C
  nd : (A' ++ C).Nodup
  df : ∀ a ∈ A' ++ C, ¬ F' a
  nb : ∀ a ∈ A' ++ C, a ∈ A ∨ H a = none
/-- what the def k promises where its evaluation comes to an end -/
def spD (K : PySem.W.Frag) (L : Nat → Addr → Prop) (cf : Cf) (k : Nat) (vs : List V) (H : Hp) (Q : VK) : Prop := ∃ F os A o outs, cf k os = some (o, outs) ∧ ROL K L F H os vs A ∧ A.Nodup ∧ (∀ a ∈ A, ¬ F a) ∧ (∀ a, F a → ∃ u, H a = some u) ∧
  ∀ v H' F' A' C, Pc K L F A H vs o outs v H' F' A' C → Q v H'
/-- a def keeps a promise where nothing is being written as a text (repr) around -/
structure FnG (P : Program) (w : World) (K : PySem.W.Frag) (mg : Str → Option Value) (base : Heap) (k : Nat) (f : Addr) (fd : FuncData) (ps : List Str) (sp : List V → Hp → VK → Prop) : Prop where
  len : ∀ vs H Q, sp vs H Q → vs.length = ps.length
  run : ∀ (A : Around) (outer : List Env) (s : Shared) (H : Hp) (args : Args) (us : List Value) (vs : List V) (Q : VK), Room k A → A.guards = some [] → Env0 P w K mg base A outer s H → BindsTo s fd args (ps.zip us) → Vals vs us → sp vs H Q →
    codeAny (model P w) A (.call (.ref f) args) (CR CX0 outer P w H s Q E0) s
end Mi

end
section
set_option maxHeartbeats 1000000
/-! Mi6: lemmas for the soundness of expressions. -/
namespace Mi
open PySem L2

theorem pe_wk {X : Cx} {e : Expr} {t t' : TE} (h : PE X e t') (hw : ∀ σ H Q, t σ H Q → t' σ H Q) : PE X e t := ⟨fun pins s σ H Q I q => h.run pins s σ H Q I (hw σ H Q q)⟩
theorem pe_bot {X : Cx} {e : Expr} {t : TE} (hw : ∀ σ H Q, ¬ t σ H Q) : PE X e t := ⟨fun pins s σ H Q I q => absurd q (hw σ H Q)⟩
theorem pa_wk {X : Cx} {e : List Expr} {t t' : TA} (h : PA X e t') (hw : ∀ σ H Q, t σ H Q → t' σ H Q) : PA X e t := ⟨fun pos pins s σ H Q I q => h.run pos pins s σ H Q I (hw σ H Q q)⟩
theorem pa_bot {X : Cx} {e : List Expr} {t : TA} (hw : ∀ σ H Q, ¬ t σ H Q) : PA X e t := ⟨fun pos pins s σ H Q I q => absurd q (hw σ H Q)⟩
theorem pt_wk {X : Cx} {e : Expr} {t t' : TT} (h : PT X e t') (hw : ∀ σ H Q, t σ H Q → t' σ H Q) : PT X e t := ⟨fun pins s σ H Q I q => h.run pins s σ H Q I (hw σ H Q q)⟩
theorem pt_bot {X : Cx} {e : Expr} {t : TT} (hw : ∀ σ H Q, ¬ t σ H Q) : PT X e t := ⟨fun pins s σ H Q I q => absurd q (hw σ H Q)⟩
theorem pw_wk {X : Cx} {e : Expr} {t t' : TT} (h : PW X e t') (hw : ∀ σ H Q, t σ H Q → t' σ H Q) : PW X e t := ⟨fun wh pins s σ H Q I q => h.run wh pins s σ H Q I (hw σ H Q q)⟩
theorem pw_bot {X : Cx} {e : Expr} {t : TT} (hw : ∀ σ H Q, ¬ t σ H Q) : PW X e t := ⟨fun wh pins s σ H Q I q => absurd q (hw σ H Q)⟩

section
variable {K : PySem.W.Frag} {L : Nat → Addr → Prop} {F F1 F2 : Fz} {H H1 H2 : Hp} {r r1 r2 : En} {σ : St} {B B1 B2 : List Addr}
theorem tR_none {q pl : Bool} {Q : VK} : ¬ tR K L q pl r none σ H Q := by
  rintro ⟨F, B, o, r', _, h, _⟩; cases h
theorem tRs_none {q m : Bool} {ns : List (Option Nat)} {Q : List V → Hp → Prop} : ¬ tRs K L q m ns r none σ H Q := by
  rintro ⟨F, B, o, r', _, h, _⟩; cases h
/-! ### data -/
theorem rpl_len : ∀ {ds : List D} {xs : List V}, RpL K F H ds xs → xs.length = ds.length
  | [], _, h => by simp only [RpL] at h; rw [h]; rfl
  | d :: ds, _, h => by
    simp only [RpL] at h
    obtain ⟨x, ys, rfl, _, h2⟩ := h
    simp [rpl_len h2]
theorem rol_len : ∀ {os : List O} {xs : List V} {A : List Addr}, ROL K L F H os xs A → xs.length = os.length
  | [], _, _, h => by simp only [ROL] at h; rw [h.1]; rfl
  | o :: os, _, _, h => by
    simp only [ROL] at h
    obtain ⟨x, ys, A1, A2, rfl, _, h2, _⟩ := h
    simp [rol_len h2]
theorem rol_vals : ∀ {os : List O} {xs : List V} {A : List Addr} {ds : List D}, ROL K L F H os xs A → vals os = some ds → RpL K F H ds xs ∧ A = []
  | [], _, _, ds, h, e => by
    simp only [ROL] at h
    simp only [vals, Option.some.injEq] at e
    subst e
    exact ⟨by simp only [RpL]; exact h.1, h.2⟩
  | .val d :: os, _, _, ds, h, e => by
    simp only [ROL, RO] at h
    obtain ⟨x, ys, A1, A2, rfl, ⟨h1, rfl⟩, h2, rfl⟩ := h
    simp only [vals, Option.map_eq_some_iff] at e
    obtain ⟨ds', e', rfl⟩ := e
    obtain ⟨p, rfl⟩ := rol_vals h2 e'
    exact ⟨by simp only [RpL]; exact ⟨x, ys, rfl, h1, p⟩, rfl⟩
  | .lst _ :: _, _, _, _, _, e => by simp [vals] at e
  | .tup _ :: _, _, _, _, _, e => by simp [vals] at e
  | .fn _ :: _, _, _, _, _, e => by simp [vals] at e
  | .scr _ :: _, _, _, _, _, e => by simp [vals] at e
theorem rol_of : ∀ {ds : List D} {xs : List V}, RpL K F H ds xs → ROL K L F H (ds.map O.val) xs []
  | [], _, h => by simp only [RpL] at h; simp only [List.map_nil, ROL]; exact ⟨h, trivial⟩
  | d :: ds, _, h => by
    simp only [RpL] at h
    obtain ⟨x, ys, rfl, h1, h2⟩ := h
    simp only [List.map_cons, ROL, RO]
    exact ⟨x, ys, [], [], rfl, ⟨h1, rfl⟩, rol_of h2, rfl⟩
theorem vals_map : ∀ (ds : List D), vals (ds.map O.val) = some ds
  | [] => rfl
  | d :: ds => by simp [vals, vals_map ds]
theorem vals_eq : ∀ {os : List O} {ds : List D}, vals os = some ds → os = ds.map O.val
  | [], ds, e => by simp only [vals, Option.some.injEq] at e; subst e; rfl
  | .val d :: os, ds, e => by
    simp only [vals, Option.map_eq_some_iff] at e
    obtain ⟨ds', e', rfl⟩ := e
    rw [vals_eq e']; rfl
  | .lst _ :: _, _, e => by simp [vals] at e
  | .tup _ :: _, _, e => by simp [vals] at e
  | .fn _ :: _, _, e => by simp [vals] at e
  | .scr _ :: _, _, e => by simp [vals] at e
/-- what is looked at, the outermost part perhaps owned -/
def Shv (K : PySem.W.Frag) (F : Fz) (H : Hp) : D → V → Prop
  | .list ds, v => ∃ a xs, v = .ref a ∧ H a = some (.lst xs) ∧ RpL K F H ds xs
  | d, v => Rp K F H d v
theorem Shv.of {d : D} {v : V} (h : Rp K F H d v) : Shv K F H d v := by
  cases d with
  | list ds =>
    simp only [Rp] at h
    obtain ⟨a, xs, e, h1, h2, h3⟩ := h
    exact ⟨a, xs, e, h1, h3⟩
  | _ => exact h
theorem RO.shv {o : O} {v : V} {A : List Addr} {d : D} (h : RO K L F H o v A) (e : o.sh = some d) : Shv K F H d v := by
  cases o with
  | val d' =>
    simp only [O.sh, Option.some.injEq] at e
    subst e
    simp only [RO] at h
    exact Shv.of h.1
  | lst os =>
    simp only [O.sh, Option.map_eq_some_iff] at e
    obtain ⟨ds, e, rfl⟩ := e
    simp only [RO] at h
    obtain ⟨a, xs, A1, rfl, h1, h2, _⟩ := h
    exact ⟨a, xs, rfl, h1, (rol_vals h2 e).1⟩
  | tup os =>
    simp only [O.sh, Option.map_eq_some_iff] at e
    obtain ⟨ds, e, rfl⟩ := e
    simp only [RO] at h
    obtain ⟨a, xs, rfl, h1, h2⟩ := h
    show Rp K F H (.tuple ds) (.ref a)
    simp only [Rp]
    exact ⟨a, xs, rfl, h1, (rol_vals h2 e).1⟩
  | fn k => simp [O.sh] at e
  | scr ns => simp [O.sh] at e
theorem RO.isVal {o : O} {v : V} {A : List Addr} (h : RO K L F H o v A) (e : o.isVal = true) : A = [] := by
  cases o with
  | val d => simp only [RO] at h; exact h.2
  | lst _ => simp [O.isVal] at e
  | tup _ => simp [O.isVal] at e
  | fn k => simp only [RO] at h; obtain ⟨_, _, _, h⟩ := h; exact h
  | scr ns => simp only [RO] at h; obtain ⟨_, _, _, h⟩ := h; exact h
mutual
theorem RO.freeze : ∀ (o : O) (v : V) (A : List Addr) (d : D), RO K L F H o v A → o.toD = some d → Rp K (fun a => F a ∨ a ∈ A) H d v
  | .val d', v, A, d, h, e => by
    simp only [O.toD, Option.some.injEq] at e
    subst e
    simp only [RO] at h
    exact Rp.keep (fun _ h => .inl h) (Kept.same fun _ _ h => h) _ _ h.1
  | .lst os, v, A, d, h, e => by
    simp only [O.toD, Option.map_eq_some_iff] at e
    obtain ⟨ds, e, rfl⟩ := e
    simp only [RO] at h
    obtain ⟨a, xs, A1, rfl, h1, h2, rfl⟩ := h
    simp only [Rp]
    exact ⟨a, xs, rfl, h1, .inr (by simp), RpL.keep (F := fun a => F a ∨ a ∈ A1) (fun b hb => by rcases hb with hb | hb; exact .inl hb; exact .inr (by simp [hb])) (Kept.same fun _ _ h => h) _ _ (ROL.freeze os xs A1 ds h2 e)⟩
  | .tup os, v, A, d, h, e => by
    simp only [O.toD, Option.map_eq_some_iff] at e
    obtain ⟨ds, e, rfl⟩ := e
    simp only [RO] at h
    obtain ⟨a, xs, rfl, h1, h2⟩ := h
    simp only [Rp]
    exact ⟨a, xs, rfl, h1, ROL.freeze os xs A ds h2 e⟩
  | .fn _, _, _, _, _, e => by simp [O.toD] at e
  | .scr _, _, _, _, _, e => by simp [O.toD] at e
theorem ROL.freeze : ∀ (os : List O) (xs : List V) (A : List Addr) (ds : List D), ROL K L F H os xs A → toDs os = some ds → RpL K (fun a => F a ∨ a ∈ A) H ds xs
  | [], _, _, _, h, e => by
    simp only [toDs, Option.some.injEq] at e
    subst e
    simp only [ROL] at h
    simp only [RpL]
    exact h.1
  | o :: os, _, _, _, h, e => by
    simp only [toDs] at e
    split at e
    · rename_i d ds' e1 e2
      simp only [Option.some.injEq] at e
      subst e
      simp only [ROL] at h
      obtain ⟨x, ys, A1, A2, rfl, h1, h2, rfl⟩ := h
      simp only [RpL]
      exact ⟨x, ys, rfl, Rp.keep (F := fun a => F a ∨ a ∈ A1) (fun b hb => by rcases hb with hb | hb; exact .inl hb; exact .inr (by simp [hb])) (Kept.same fun _ _ h => h) _ _ (RO.freeze o x A1 d h1 e1),
        RpL.keep (F := fun a => F a ∨ a ∈ A2) (fun b hb => by rcases hb with hb | hb; exact .inl hb; exact .inr (by simp [hb])) (Kept.same fun _ _ h => h) _ _ (ROL.freeze os ys A2 ds' h2 e2)⟩
    · cases e
end
mutual
theorem Rp.dp : ∀ (d : D) (v : V), Rp K F H d v → Dp K H v d
  | .none, _, h => by simp only [Rp] at h; subst h; exact .non
  | .bool b, _, h => by simp only [Rp] at h; subst h; exact .bl b
  | .int b, _, h => by simp only [Rp] at h; subst h; exact .int b
  | .str b, _, h => by simp only [Rp] at h; subst h; exact .str b
  | .list ds, _, h => by
    simp only [Rp] at h
    obtain ⟨a, xs, rfl, h1, _, h2⟩ := h
    exact .lst (SqL.of h1) (RpL.dp ds xs h2)
  | .tuple ds, _, h => by
    simp only [Rp] at h
    obtain ⟨a, xs, rfl, h1, h2⟩ := h
    exact .tup h1 (RpL.dp ds xs h2)
  | .dict _, _, h => by simp only [Rp] at h
theorem RpL.dp : ∀ (ds : List D) (xs : List V), RpL K F H ds xs → DpAll K H xs ds
  | [], _, h => by simp only [RpL] at h; subst h; exact .nil
  | d :: ds, _, h => by
    simp only [RpL] at h
    obtain ⟨x, ys, rfl, h1, h2⟩ := h
    exact .cons (Rp.dp d x h1) (RpL.dp ds ys h2)
end
mutual
/-- what the deep look of the layer asks -/
theorem RO.dp : ∀ (o : O) (v : V) (A : List Addr) (d : D), RO K L F H o v A → o.toD = some d → Dp K H v d
  | .val d', v, A, d, h, e => by
    simp only [O.toD, Option.some.injEq] at e
    subst e
    simp only [RO] at h
    exact Rp.dp _ _ h.1
  | .lst os, v, A, d, h, e => by
    simp only [O.toD, Option.map_eq_some_iff] at e
    obtain ⟨ds, e, rfl⟩ := e
    simp only [RO] at h
    obtain ⟨a, xs, A1, rfl, h1, h2, rfl⟩ := h
    exact .lst (SqL.of h1) (ROL.dp os xs A1 ds h2 e)
  | .tup os, v, A, d, h, e => by
    simp only [O.toD, Option.map_eq_some_iff] at e
    obtain ⟨ds, e, rfl⟩ := e
    simp only [RO] at h
    obtain ⟨a, xs, rfl, h1, h2⟩ := h
    exact .tup h1 (ROL.dp os xs A ds h2 e)
  | .fn _, _, _, _, _, e => by simp [O.toD] at e
  | .scr _, _, _, _, _, e => by simp [O.toD] at e
theorem ROL.dp : ∀ (os : List O) (xs : List V) (A : List Addr) (ds : List D), ROL K L F H os xs A → toDs os = some ds → DpAll K H xs ds
  | [], _, _, _, h, e => by
    simp only [toDs, Option.some.injEq] at e
    subst e
    simp only [ROL] at h
    rw [h.1]
    exact .nil
  | o :: os, _, _, _, h, e => by
    simp only [toDs] at e
    split at e
    · rename_i d ds' e1 e2
      simp only [Option.some.injEq] at e
      subst e
      simp only [ROL] at h
      obtain ⟨x, ys, A1, A2, rfl, h1, h2, rfl⟩ := h
      exact .cons (RO.dp o x A1 d h1 e1) (ROL.dp os ys A2 ds' h2 e2)
    · cases e
end
theorem Shv.dp {d : D} {v : V} (h : Shv K F H d v) : Dp K H v d := by
  cases d with
  | list ds =>
    obtain ⟨a, xs, rfl, h1, h2⟩ := h
    exact .lst (SqL.of h1) (RpL.dp ds xs h2)
  | _ => exact Rp.dp (F := F) _ _ h

/-! ### ends of an expression's run -/
/-- a plain value -/
theorem Ps.plain {q pl : Bool} {d : D} {v : V} (t : Tr F B H F1 B1 H1) (s : Stt K L F1 H1 r1 σ B1) (h : Rp K F1 H1 d v) (hq : q = true → ∀ a u, H a = some u → H1 a = some u) : Ps K L q pl F B H r1 (.val d) σ v H1 F1 B1 [] where
  tr := t
  st := s
  ro := by simp only [RO]; exact ⟨h, trivial⟩
  fr := fun _ => ⟨by simpa using s.nd, by simp, by simp⟩
  inb := fun _ => by simp
  qt := fun e => ⟨hq e, by simp⟩
/-- a new list -/
theorem Ps.list {q : Bool} {os : List O} {vs : List V} {A : List Addr} {p : Addr} (t : Tr F B H F1 B1 H1) (s : Stt K L F1 H1 r1 σ B1) (h : ROL K L F1 H1 os vs A) (hp : H1 p = none)
    (f1 : (B1 ++ A).Nodup) (f2 : ∀ a ∈ A, ¬ F1 a) (f3 : ∀ a ∈ A, a ∈ B ∨ H a = none)
    (hq : q = true → (∀ a u, H a = some u → H1 a = some u) ∧ ∀ a ∈ A, H a = none) : Ps K L q false F B H r1 (.lst os) σ (.ref p) (upd H1 p (.lst vs)) F1 B1 (p :: A) where
  tr := t.trans (Tr.same (same_new hp))
  st := s.same (same_new hp)
  ro := by
    simp only [RO]
    exact ⟨p, vs, A, rfl, upd_same, ROL.keep (fun _ h => h) os vs A (Kept.new hp) h, rfl⟩
  fr := fun _ => by
    have pB : p ∉ B1 := fun h => by
      obtain ⟨xs, e⟩ := s.lists h
      rw [hp] at e; cases e
    have pA : p ∉ A := fun ha => by
      obtain ⟨xs, e⟩ := ROL.own os vs A h p ha
      rw [hp] at e; cases e
    refine ⟨?_, ?_, ?_⟩
    · rw [List.nodup_append] at f1 ⊢
      refine ⟨f1.1, List.nodup_cons.mpr ⟨pA, f1.2.1⟩, fun a ha b hb => ?_⟩
      rcases List.mem_cons.mp hb with rfl | hb
      · exact fun e => pB (e ▸ ha)
      · exact f1.2.2 a ha b hb
    · intro a ha hf
      rcases List.mem_cons.mp ha with rfl | ha
      · obtain ⟨u, e⟩ := s.dm _ hf
        rw [hp] at e; cases e
      · exact f2 a ha hf
    · intro a ha
      rcases List.mem_cons.mp ha with rfl | ha
      · exact t.none_of hp
      · exact f3 a ha
  inb := fun e => by cases e
  qt := fun e => by
    obtain ⟨q1, q2⟩ := hq e
    refine ⟨fun a u h => same_new hp a u (q1 a u h), fun _ a ha => ?_⟩
    rcases List.mem_cons.mp ha with rfl | ha
    · cases e1 : H a with
      | none => rfl
      | some u =>
        have := q1 a u e1
        rw [hp] at this; cases this
    · exact q2 a ha
/-- a new list of plain things -/
theorem Ps.listv {q : Bool} {ds : List D} {vs : List V} {p : Addr} (t : Tr F B H F1 B1 H1) (s : Stt K L F1 H1 r1 σ B1) (h : RpL K F1 H1 ds vs) (hp : H1 p = none)
    (hq : q = true → ∀ a u, H a = some u → H1 a = some u) : Ps K L q false F B H r1 (.lst (ds.map O.val)) σ (.ref p) (upd H1 p (.lst vs)) F1 B1 [p] :=
  Ps.list t s (rol_of h) hp (by simpa using s.nd) (by simp) (by simp) fun e => ⟨hq e, by simp⟩
/-- a new tuple of plain things -/
theorem Ps.tuplev {q pl : Bool} {ds : List D} {vs : List V} {p : Addr} (t : Tr F B H F1 B1 H1) (s : Stt K L F1 H1 r1 σ B1) (h : RpL K F1 H1 ds vs) (hp : H1 p = none)
    (hq : q = true → ∀ a u, H a = some u → H1 a = some u) : Ps K L q pl F B H r1 (.val (.tuple ds)) σ (.ref p) (upd H1 p (.tup vs)) F1 B1 [] :=
  Ps.plain (t.trans (Tr.same (same_new hp))) (s.same (same_new hp)) (by
    simp only [Rp]
    exact ⟨p, vs, rfl, SqT.of upd_same, RpL.keep (fun _ h => h) (Kept.new hp) _ _ h⟩) fun e a u h => same_new hp a u (hq e a u h)
/-- a new tuple of owned things -/
theorem Ps.tuple {q : Bool} {os : List O} {vs : List V} {A : List Addr} {p : Addr} (t : Tr F B H F1 B1 H1) (s : Stt K L F1 H1 r1 σ B1) (h : ROL K L F1 H1 os vs A) (hp : H1 p = none)
    (f1 : (B1 ++ A).Nodup) (f2 : ∀ a ∈ A, ¬ F1 a) (f3 : ∀ a ∈ A, a ∈ B ∨ H a = none)
    (hq : q = true → (∀ a u, H a = some u → H1 a = some u) ∧ ∀ a ∈ A, H a = none) : Ps K L q false F B H r1 (.tup os) σ (.ref p) (upd H1 p (.tup vs)) F1 B1 A where
  tr := t.trans (Tr.same (same_new hp))
  st := s.same (same_new hp)
  ro := by
    simp only [RO]
    exact ⟨p, vs, rfl, SqT.of upd_same, ROL.keep (fun _ h => h) os vs A (Kept.new hp) h⟩
  fr := fun _ => ⟨f1, f2, f3⟩
  inb := fun e => by cases e
  qt := fun e => by
    obtain ⟨q1, q2⟩ := hq e
    exact ⟨fun a u h => same_new hp a u (q1 a u h), fun _ => q2⟩

/-! ### two operands -/
theorem keep_first {aq apl bq bpl : Bool} {x y : O} {v1 v2 : V} {A1 A2 : List Addr} (hc : (x.isVal || !apl || bq) = true)
    (p1 : Ps K L aq apl F B H r1 x σ v1 H1 F1 B1 A1) (p2 : Ps K L bq bpl F1 B1 H1 r2 y σ v2 H2 F2 B2 A2) : RO K L F2 H2 x v1 A1 := by
  refine RO.keep p2.tr.e1 x v1 A1 ?_ p1.ro
  rw [Bool.or_eq_true, Bool.or_eq_true] at hc
  rcases hc with (hc | hc) | hc
  · rw [RO.isVal p1.ro hc]
    exact p2.tr.kept p1.st (by simp)
  · have e : apl = false := by simpa using hc
    obtain ⟨nd, _, _⟩ := p1.fr e
    refine p2.tr.kept p1.st fun a ha hb => ?_
    exact (List.nodup_append.mp nd).2.2 a hb a ha rfl
  · exact Kept.same (p2.qt hc).1
theorem two_ok {aq apl bq bpl : Bool} {ra rb : Option (O × En)} {x y : O} {R : V → V → Hp → Prop} (hc : (x.isVal || !apl || bq) = true) (s : Stt K L F H r σ B) (ea : ra = some (x, r1)) (eb : rb = some (y, r2))
    (h : ∀ v1 v2 H2 F2 B2 A1 A2, Tr F B H F2 B2 H2 → Stt K L F2 H2 r2 σ B2 → RO K L F2 H2 x v1 A1 → RO K L F2 H2 y v2 A2 → (aq = true → bq = true → ∀ a u, H a = some u → H2 a = some u) → R v1 v2 H2) :
    tR K L aq apl r ra σ H fun v1 H1 => tR K L bq bpl r1 rb σ H1 fun v2 H2 => R v1 v2 H2 := by
  refine ⟨F, B, x, r1, s, ea, fun v1 H1 F1 B1 A1 p1 => ⟨F1, B1, y, r2, p1.st, eb, fun v2 H2 F2 B2 A2 p2 => ?_⟩⟩
  exact h v1 v2 H2 F2 B2 A1 A2 (p1.tr.trans p2.tr) p2.st (keep_first hc p1 p2) p2.ro fun e1 e2 a u e => (p2.qt e2).1 a u ((p1.qt e1).1 a u e)
end
end Mi

end
section
set_option maxHeartbeats 1000000
/-! Mi7: operators on data. -/
namespace Mi
open PySem L2

section
variable {K : PySem.W.Frag} {L : Nat → Addr → Prop} {F F1 F2 : Fz} {H H1 H2 : Hp} {r r1 r2 : En} {σ : St} {B B1 B2 : List Addr}
/-- what an operator's result may be -/
def NewO (K : PySem.W.Frag) (F : Fz) (H : Hp) (res : O) (v : V) (H' : Hp) : Prop :=
  (∃ d, res = .val d ∧ Rp K F H d v ∧ H' = H) ∨
  (∃ ds vs p, res = .lst (ds.map O.val) ∧ RpL K F H ds vs ∧ H p = none ∧ v = .ref p ∧ H' = upd H p (.lst vs)) ∨
  (∃ ds vs p, res = .val (.tuple ds) ∧ RpL K F H ds vs ∧ H p = none ∧ v = .ref p ∧ H' = upd H p (.tup vs))
theorem NewO.ps {q : Bool} {res : O} {v : V} {H' : Hp} (n : NewO K F1 H1 res v H') (t : Tr F B H F1 B1 H1) (s : Stt K L F1 H1 r1 σ B1) (hq : q = true → ∀ a u, H a = some u → H1 a = some u) :
    ∃ A, Ps K L q false F B H r1 res σ v H' F1 B1 A := by
  rcases n with ⟨d, rfl, h, rfl⟩ | ⟨ds, vs, p, rfl, h, hp, rfl, rfl⟩ | ⟨ds, vs, p, rfl, h, hp, rfl, rfl⟩
  · exact ⟨[], Ps.plain t s h hq⟩
  · exact ⟨[p], Ps.listv t s h hp hq⟩
  · exact ⟨[], Ps.tuplev t s h hp hq⟩
theorem NewO.int {i : Int} : NewO K F H (.val (.int i)) (.int i) H := .inl ⟨_, rfl, by simp only [Rp], rfl⟩
theorem NewO.bl {i : Bool} : NewO K F H (.val (.bool i)) (.bl i) H := .inl ⟨_, rfl, by simp only [Rp], rfl⟩
theorem NewO.str {i : Str} : NewO K F H (.val (.str i)) (.str i) H := .inl ⟨_, rfl, by simp only [Rp], rfl⟩

/-! ### lists of data -/
theorem rpl_app : ∀ {ds es : List D} {xs ys : List V}, RpL K F H ds xs → RpL K F H es ys → RpL K F H (ds ++ es) (xs ++ ys)
  | [], _, _, _, h, h' => by simp only [RpL] at h; subst h; simpa using h'
  | d :: ds, es, _, ys, h, h' => by
    simp only [RpL] at h
    obtain ⟨x, xs, rfl, h1, h2⟩ := h
    simp only [List.cons_append, RpL]
    exact ⟨x, xs ++ ys, rfl, h1, rpl_app h2 h'⟩
theorem rpl_take : ∀ {ds : List D} {xs : List V} (n : Nat), RpL K F H ds xs → RpL K F H (ds.take n) (xs.take n)
  | [], _, n, h => by simp only [RpL] at h; subst h; simp [RpL]
  | d :: ds, _, 0, h => by simp [RpL]
  | d :: ds, _, n + 1, h => by
    simp only [RpL] at h
    obtain ⟨x, xs, rfl, h1, h2⟩ := h
    simp only [List.take_succ_cons, RpL]
    exact ⟨x, _, rfl, h1, rpl_take n h2⟩
theorem rpl_drop : ∀ {ds : List D} {xs : List V} (n : Nat), RpL K F H ds xs → RpL K F H (ds.drop n) (xs.drop n)
  | [], _, n, h => by simp only [RpL] at h; subst h; simp [RpL]
  | d :: ds, _, 0, h => by simpa using h
  | d :: ds, _, n + 1, h => by
    simp only [RpL] at h
    obtain ⟨x, xs, rfl, h1, h2⟩ := h
    simp only [List.drop_succ_cons]
    exact rpl_drop n h2
theorem rpl_cut {ds : List D} {xs : List V} (lo hi : Option Int) (h : RpL K F H ds xs) : RpL K F H (cutL ds lo hi) (cutV xs lo hi) := by
  unfold cutL cutV
  rw [rpl_len h]
  exact rpl_take _ (rpl_drop _ h)
theorem rpl_rev : ∀ {ds : List D} {xs : List V}, RpL K F H ds xs → RpL K F H ds.reverse xs.reverse
  | [], _, h => by simp only [RpL] at h; subst h; simp [RpL]
  | d :: ds, _, h => by
    simp only [RpL] at h
    obtain ⟨x, xs, rfl, h1, h2⟩ := h
    simp only [List.reverse_cons]
    exact rpl_app (rpl_rev h2) (by simp only [RpL]; exact ⟨x, [], rfl, h1, rfl⟩)
theorem rpl_rep {ds : List D} {xs : List V} (h : RpL K F H ds xs) : ∀ n, RpL K F H (List.replicate n ds).flatten (List.replicate n xs).flatten
  | 0 => by simp [RpL]
  | n + 1 => by
    simp only [List.replicate_succ, List.flatten_cons]
    exact rpl_app h (rpl_rep h n)
theorem rpl_get : ∀ {ds : List D} {xs : List V} {j : Nat} {d : D}, RpL K F H ds xs → ds[j]? = some d → ∃ x, xs[j]? = some x ∧ Rp K F H d x
  | [], _, _, _, _, e => by simp at e
  | d :: ds, _, 0, _, h, e => by
    simp only [RpL] at h
    obtain ⟨x, xs, rfl, h1, h2⟩ := h
    simp at e; subst e
    exact ⟨x, rfl, h1⟩
  | d :: ds, _, j + 1, _, h, e => by
    simp only [RpL] at h
    obtain ⟨x, xs, rfl, h1, h2⟩ := h
    obtain ⟨y, e1, e2⟩ := rpl_get (j := j) h2 (by simpa using e)
    exact ⟨y, by simpa using e1, e2⟩
theorem rpl_at {ds : List D} {xs : List V} {k : Int} {d : D} (h : RpL K F H ds xs) (e : atI ds k = some d) : ∃ x, atI xs k = some x ∧ Rp K F H d x := by
  unfold atI at e ⊢
  rw [rpl_len h]
  cases q : ixN ds.length k with
  | none => rw [q] at e; cases e
  | some j =>
    rw [q] at e
    exact rpl_get h e
theorem rol_get : ∀ {os : List O} {xs : List V} {A : List Addr} {j : Nat} {o : O}, ROL K L F H os xs A → os[j]? = some o → ∃ x A1, xs[j]? = some x ∧ RO K L F H o x A1 ∧ ∀ a ∈ A1, a ∈ A
  | [], _, _, _, _, _, e => by simp at e
  | o :: os, _, _, 0, _, h, e => by
    simp only [ROL] at h
    obtain ⟨x, xs, A1, A2, rfl, h1, h2, rfl⟩ := h
    simp at e; subst e
    exact ⟨x, A1, rfl, h1, fun a ha => by simp [ha]⟩
  | o :: os, _, _, j + 1, _, h, e => by
    simp only [ROL] at h
    obtain ⟨x, xs, A1, A2, rfl, h1, h2, rfl⟩ := h
    obtain ⟨y, A3, e1, e2, e3⟩ := rol_get (j := j) h2 (by simpa using e)
    exact ⟨y, A3, by simpa using e1, e2, fun a ha => by simp [e3 a ha]⟩
theorem rol_at {os : List O} {xs : List V} {A : List Addr} {k : Int} {o : O} (h : ROL K L F H os xs A) (e : atI os k = some o) : ∃ x A1, atI xs k = some x ∧ RO K L F H o x A1 ∧ ∀ a ∈ A1, a ∈ A := by
  unfold atI at e ⊢
  rw [rol_len h]
  cases q : ixN os.length k with
  | none => rw [q] at e; cases e
  | some j =>
    rw [q] at e
    exact rol_get h e
theorem rpl_intL : ∀ {ds : List D} {xs : List V} {ns : List Int}, RpL K F H ds xs → intL ds = some ns → xs = ns.map V.int
  | [], _, _, h, e => by
    simp only [RpL] at h
    simp only [intL, Option.some.injEq] at e
    subst e; exact h
  | .int i :: ds, _, _, h, e => by
    simp only [RpL, Rp] at h
    obtain ⟨x, xs, rfl, rfl, h2⟩ := h
    simp only [intL, Option.map_eq_some_iff] at e
    obtain ⟨ns, e, rfl⟩ := e
    rw [rpl_intL h2 e]; rfl
  | .none :: _, _, _, _, e => by simp [intL] at e
  | .bool _ :: _, _, _, _, e => by simp [intL] at e
  | .str _ :: _, _, _, _, e => by simp [intL] at e
  | .list _ :: _, _, _, _, e => by simp [intL] at e
  | .tuple _ :: _, _, _, _, e => by simp [intL] at e
  | .dict _ :: _, _, _, _, e => by simp [intL] at e
theorem rpl_boolL : ∀ {ds : List D} {xs : List V} {ns : List Bool}, RpL K F H ds xs → boolL ds = some ns → xs = ns.map V.bl
  | [], _, _, h, e => by
    simp only [RpL] at h
    simp only [boolL, Option.some.injEq] at e
    subst e; exact h
  | .bool i :: ds, _, _, h, e => by
    simp only [RpL, Rp] at h
    obtain ⟨x, xs, rfl, rfl, h2⟩ := h
    simp only [boolL, Option.map_eq_some_iff] at e
    obtain ⟨ns, e, rfl⟩ := e
    rw [rpl_boolL h2 e]; rfl
  | .none :: _, _, _, _, e => by simp [boolL] at e
  | .int _ :: _, _, _, _, e => by simp [boolL] at e
  | .str _ :: _, _, _, _, e => by simp [boolL] at e
  | .list _ :: _, _, _, _, e => by simp [boolL] at e
  | .tuple _ :: _, _, _, _, e => by simp [boolL] at e
  | .dict _ :: _, _, _, _, e => by simp [boolL] at e
theorem rpl_ints : ∀ (ns : List Int), RpL K F H (ns.map PyData.int) (ns.map V.int)
  | [] => by simp [RpL]
  | n :: ns => by
    simp only [List.map_cons, RpL, Rp]
    exact ⟨_, _, rfl, rfl, rpl_ints ns⟩

/-! ### + - * // % ** -/
theorem bin_op {X : Cx} (op : Bop) (o : Operator) (hb : bopB op o = true) (d e : D) (res : O) (he : binD op d e = some res) (hK : X.K = K) : ∃ R : R2, OpR X (binaryOp o) R ∧
    ∀ (F : Fz) (H : Hp) (v1 v2 : V), Shv K F H d v1 → Shv K F H e v2 → ∀ Q : VK, (∀ v H', NewO K F H res v H' → Q v H') → R v1 v2 H Q := by
  subst hK
  unfold binD at he
  split at he
  all_goals (cases o <;> simp only [bopB, Bool.false_eq_true] at hb)
  all_goals first | (cases he; done) | skip
  · cases he
    exact ⟨_, op_add, fun F H v1 v2 h1 h2 Q hQ => by
      simp only [Shv, Rp] at h1 h2
      exact ⟨_, _, h1, h2, hQ _ _ .int⟩⟩
  · cases he
    exact ⟨_, op_sub, fun F H v1 v2 h1 h2 Q hQ => by
      simp only [Shv, Rp] at h1 h2
      exact ⟨_, _, h1, h2, hQ _ _ .int⟩⟩
  · split at he
    · rename_i hm
      cases he
      refine ⟨_, op_mul, fun F H v1 v2 h1 h2 Q hQ => ?_⟩
      simp only [Shv, Rp] at h1 h2
      refine ⟨_, _, h1, h2, ?_, hQ _ _ .int⟩
      simpa [mulOk, CMul] using hm
    · cases he
  · split at he
    · rename_i hm
      cases he
      refine ⟨_, op_fdiv, fun F H v1 v2 h1 h2 Q hQ => ?_⟩
      simp only [Shv, Rp] at h1 h2
      exact ⟨_, _, h1, h2, hm, hQ _ _ .int⟩
    · cases he
  · split at he
    · rename_i hm
      cases he
      refine ⟨_, op_mod, fun F H v1 v2 h1 h2 Q hQ => ?_⟩
      simp only [Shv, Rp] at h1 h2
      exact ⟨_, _, h1, h2, hm, hQ _ _ .int⟩
    · cases he
  · split at he
    · rename_i hm
      cases he
      refine ⟨_, op_pow, fun F H v1 v2 h1 h2 Q hQ => ?_⟩
      simp only [Shv, Rp] at h1 h2
      exact ⟨_, _, h1, h2, hm, hQ _ _ .int⟩
    · cases he
  · split at he
    · rename_i hm
      cases he
      refine ⟨_, op_add_str, fun F H v1 v2 h1 h2 Q hQ => ?_⟩
      simp only [Shv, Rp] at h1 h2
      exact ⟨_, _, h1, h2, hm, hQ _ _ .str⟩
    · cases he
  · rename_i xs ys
    unfold tupv at he
    split at he
    · rename_i hm
      cases he
      refine ⟨_, op_catA, fun F H v1 v2 h1 h2 Q hQ => ?_⟩
      simp only [Shv, Rp] at h1 h2
      obtain ⟨a, as, rfl, p1, q1⟩ := h1
      obtain ⟨b, bs, rfl, p2, q2⟩ := h2
      have l1 := rpl_len q1
      have l2 := rpl_len q2
      refine ⟨a, b, as, bs, rfl, rfl, p1, p2, by rw [l1, l2, ← List.length_append]; exact hm, fun ea => ?_, fun _ eb => ?_, fun _ _ p hp => ?_⟩
      · have : xs = [] := by rw [ea] at l1; exact List.length_eq_zero_iff.mp l1.symm
        subst this
        exact hQ _ _ (.inl ⟨_, rfl, by simp only [Rp]; exact ⟨b, bs, rfl, p2, by simpa using q2⟩, rfl⟩)
      · have : ys = [] := by rw [eb] at l2; exact List.length_eq_zero_iff.mp l2.symm
        subst this
        exact hQ _ _ (.inl ⟨_, rfl, by simp only [Rp]; exact ⟨a, as, rfl, p1, by simpa using q1⟩, rfl⟩)
      · exact hQ _ _ (.inr (.inr ⟨_, _, p, rfl, rpl_app q1 q2, hp, rfl, rfl⟩))
    · cases he
  · rename_i xs ys
    unfold lstv at he
    split at he
    · rename_i hm
      cases he
      refine ⟨_, op_cat, fun F H v1 v2 h1 h2 Q hQ => ?_⟩
      simp only [Shv] at h1 h2
      obtain ⟨a, as, rfl, p1, q1⟩ := h1
      obtain ⟨b, bs, rfl, p2, q2⟩ := h2
      have l1 := rpl_len q1
      have l2 := rpl_len q2
      exact ⟨a, b, as, bs, rfl, rfl, p1, p2, by rw [l1, l2, ← List.length_append]; exact hm, fun p hp => hQ _ _ (.inr (.inl ⟨_, _, p, rfl, rpl_app q1 q2, hp, rfl, rfl⟩))⟩
    · cases he
  · rename_i xs k
    split at he
    · rename_i hk
      unfold lstv at he
      split at he
      · rename_i hm
        cases he
        refine ⟨_, op_rep, fun F H v1 v2 h1 h2 Q hQ => ?_⟩
        simp only [Shv, Rp] at h1 h2
        obtain ⟨a, as, rfl, p1, q1⟩ := h1
        have l1 := rpl_len q1
        refine ⟨a, k, as, rfl, h2, p1, hk.1, hk.2, ?_, fun p hp => hQ _ _ (.inr (.inl ⟨_, _, p, rfl, rpl_rep q1 _, hp, rfl, rfl⟩))⟩
        rw [l1]
        simpa [Nat.mul_comm] using hm
      · cases he
    · cases he
  · rename_i xs k
    split at he
    · rename_i hk
      cases he
      refine ⟨_, op_repT, fun F H v1 v2 h1 h2 Q hQ => ?_⟩
      simp only [Shv, Rp] at h1 h2
      obtain ⟨a, as, rfl, p1, q1⟩ := h1
      have l1 := rpl_len q1
      refine ⟨a, k, as, rfl, h2, p1, fun ea => hk.2.2.1 ?_, hk.1, hk.2.1, by rw [l1]; exact hk.2.2.2, fun p hp => hQ _ _ (.inr (.inr ⟨_, _, p, rfl, rpl_rep q1 _, hp, rfl, rfl⟩))⟩
      rw [ea] at l1; exact List.length_eq_zero_iff.mp l1.symm
    · cases he
end
end Mi

end
section
set_option maxHeartbeats 2000000
/-! MiO: order of data: comparisons, sorted, min. -/
namespace Mi
open PySem PySem.Spec PyProof.Rows L2
section
variable {X : Cx}
theorem ord_parts {d e : PyData} (h : ordOk d e = true) : PySem.W.alike d e = true ∧ d ≠ .none ∧ min d.depth e.depth ≤ 64 := by
  unfold ordOk at h
  rw [Bool.and_eq_true, Bool.and_eq_true, decide_eq_true_eq] at h
  exact ⟨h.1.1, fun q => (by have h2 := h.1.2; rw [q] at h2; exact absurd h2 (by simp [isNone])), h.2⟩
def rOrd (K : PySem.W.Frag) (f : PyData → PyData → Bool) : R2 := fun x y H Q => ∃ d e, Dp K H x d ∧ Dp K H y e ∧ ordOk d e = true ∧ Q (.bl (f d e)) H
theorem op_ltO (hu : X.A.units + 64 < cLine) : OpR X (compareOp .Lt) (rOrd X.K PySem.W.dataLt) := by
  intro pins s σ H x y v u Q I rx ry h
  obtain ⟨d, e, hd, he, hk, q⟩ := h
  obtain ⟨as, r1⟩ := Dp.reads I d x v hd rx
  obtain ⟨bs, r2⟩ := Dp.reads I e y u he ry
  obtain ⟨k1, k2, k3⟩ := ord_parts hk
  exact PySem.W.lt_data r1 r2 k1 k2 (by omega) ⟨.bl _, H, I, rfl, q⟩
theorem op_gtO (hu : X.A.units + 64 < cLine) : OpR X (compareOp .Gt) (rOrd X.K fun d e => PySem.W.dataLt e d) := by
  intro pins s σ H x y v u Q I rx ry h
  obtain ⟨d, e, hd, he, hk, q⟩ := h
  obtain ⟨as, r1⟩ := Dp.reads I d x v hd rx
  obtain ⟨bs, r2⟩ := Dp.reads I e y u he ry
  obtain ⟨k1, k2, k3⟩ := ord_parts hk
  exact PySem.W.gt_data r1 r2 k1 k2 (by omega) ⟨.bl _, H, I, rfl, q⟩
theorem op_leO (hu : X.A.units + 64 < cLine) : OpR X (compareOp .LtE) (rOrd X.K fun d e => !PySem.W.dataLt e d) := by
  intro pins s σ H x y v u Q I rx ry h
  obtain ⟨d, e, hd, he, hk, q⟩ := h
  obtain ⟨as, r1⟩ := Dp.reads I d x v hd rx
  obtain ⟨bs, r2⟩ := Dp.reads I e y u he ry
  obtain ⟨k1, k2, k3⟩ := ord_parts hk
  exact PySem.W.le_data r1 r2 k1 k2 (by omega) ⟨.bl _, H, I, rfl, q⟩
theorem op_geO (hu : X.A.units + 64 < cLine) : OpR X (compareOp .GtE) (rOrd X.K fun d e => !PySem.W.dataLt d e) := by
  intro pins s σ H x y v u Q I rx ry h
  obtain ⟨d, e, hd, he, hk, q⟩ := h
  obtain ⟨as, r1⟩ := Dp.reads I d x v hd rx
  obtain ⟨bs, r2⟩ := Dp.reads I e y u he ry
  obtain ⟨k1, k2, k3⟩ := ord_parts hk
  exact PySem.W.ge_data r1 r2 k1 k2 (by omega) ⟨.bl _, H, I, rfl, q⟩
/-! ### sorted -/
abbrev leD : PyData → PyData → Bool := PySem.W.dataLe false fun d => d
theorem zip_each : ∀ {xs : List V} {us : List Value} {ds : List PyData}, Vals xs us → xs.length = ds.length → PySem.W.EachIs (fun (u : Value) (z : V × PyData) => RelV z.1 u) us (xs.zip ds)
  | _, _, [], r, h => by
    cases r with
    | nil => exact .nil
    | cons _ _ => cases h
  | _, _, d :: ds, r, h => by
    cases r with
    | nil => cases h
    | cons r1 r2 => exact .cons r1 (zip_each r2 (by simpa using h))
theorem zip_reads {h : Heap} : ∀ {us : List Value} {ds : List PyData} {xs : List V} {as : List Addr}, ReadsAll h us ds as → xs.length = ds.length → PySem.W.EachIs (fun (u : Value) (z : V × PyData) => ∃ as, Reads h u z.2 as) us (xs.zip ds)
  | _, _, [], _, r, hl => by
    cases r with
    | nil => exact .nil
    | cons _ _ => cases hl
  | _, _, x :: xs, _, r, hl => by
    cases r with
    | nil => cases hl
    | cons r1 r2 => exact .cons ⟨_, r1⟩ (zip_reads r2 (by simpa using hl))
theorem each_vals : ∀ {us : List Value} {zs : List (V × PyData)}, PySem.W.EachIs (fun (u : Value) (z : V × PyData) => RelV z.1 u) us zs → Vals (zs.map Prod.fst) us
  | _, _, .nil => .nil
  | _, _, .cons r rs => .cons r (each_vals rs)
theorem dp_len {K : PySem.W.Frag} {H : Hp} : ∀ {xs : List V} {ds : List PyData}, DpAll K H xs ds → xs.length = ds.length
  | _, _, .nil => rfl
  | _, _, .cons _ h => by simp [dp_len h]
theorem srt_parts {ds : List PyData} (h : srtOk ds = true) : PySem.W.AllAlike ds ∧ PySem.W.Sortable ds ∧ (∀ d ∈ ds, d.depth ≤ 60) ∧ ds.length ≤ sizeLine := by
  unfold srtOk at h
  rw [Bool.and_eq_true, Bool.and_eq_true, Bool.and_eq_true, decide_eq_true_eq] at h
  obtain ⟨⟨⟨h1, h2⟩, h3⟩, h4⟩ := h
  refine ⟨fun d hd e he => List.all_eq_true.mp (List.all_eq_true.mp h1 d hd) e he, ?_, fun d hd => of_decide_eq_true (List.all_eq_true.mp h3 d hd), h4⟩
  rw [Bool.or_eq_true] at h2
  rcases h2 with h2 | h2
  · refine .inl fun d hd => ?_
    have := List.all_eq_true.mp h2 d hd
    unfold tupB at this
    split at this
    · exact ⟨_, _, rfl⟩
    · cases this
  · refine .inr fun d hd => ?_
    have := List.all_eq_true.mp h2 d hd
    cases d <;> first
      | (exact absurd this Bool.false_ne_true)
      | (constructor <;> simp; done)
def rSrtD (K : PySem.W.Frag) : List V → Hp → VK → Prop := fun vs H Q => ∃ (a : Addr) (xs : List V) (ds : List PyData), vs = [.ref a] ∧ SqL K H a xs ∧ DpAll K H xs ds ∧ srtOk ds = true ∧
  ∀ (zs : List (V × PyData)) (p : Addr), (∀ z ∈ zs, z ∈ xs.zip ds) → zs.map Prod.snd = ds.mergeSort leD → H p = none → Q (.ref p) (upd H p (.lst (zs.map Prod.fst)))
theorem cr_srtD (hu : X.A.units + 80 < cLine) : CallR X (.builtin "sorted") (rSrtD X.K) := by
  intro pins s σ H vs us Q I r h
  obtain ⟨a, xs, ds, rfl, hs, hd, hk, q⟩ := h
  obtain ⟨its, rv, hl, hz⟩ := I.list hs
  rw [Vals.ref1 r]
  obtain ⟨k1, k2, k3, k4⟩ := srt_parts hk
  obtain ⟨as, ra⟩ := Dp.readsAll I ds xs its hd rv
  have hlen := dp_len hd
  have hsnd : (xs.zip ds).map Prod.snd = ds := List.map_snd_zip (by omega)
  refine PySem.W.sorted_data (enc := Prod.snd) hl.isList (zip_each rv hlen) (zip_reads ra hlen) (by rw [hsnd]; exact k1) (by rw [hsnd]; exact k2) (by rw [List.length_zip]; omega) (fun b hb => ?_) fun out ho hr => ?_
  · have := k3 b.2 (List.of_mem_zip hb).2
    omega
  · have rv2 := each_vals hr
    obtain ⟨ep, he'⟩ := PyProof.Rows.sortedAll_at s.heap its out.toArray
    have hp := List.mergeSort_perm (xs.zip ds) (PySem.W.dataLe false Prod.snd)
    refine ⟨.ref _, upd H (s.heap.objs.size + 1) (.lst (((xs.zip ds).mergeSort (PySem.W.dataLe false Prod.snd)).map Prod.fst)), I.laid (t' := s.toks) (fun _ _ => PyProof.Rows.sortedAll_old) (Nat.le_succ _) ⟨?_, out, ep, rv2, he'⟩, rfl, q _ _ (fun z hz => hp.mem_iff.mp hz) ?_ (I.hok.fresh (Nat.le_succ _))⟩
    · rw [List.length_map, hp.length_eq, List.length_zip]
      omega
    · have hm := List.map_mergeSort (r := PySem.W.dataLe false Prod.snd) (s := leD) (f := Prod.snd) (l := xs.zip ds) (fun _ _ _ _ => rfl)
      rw [hm, hsnd]
theorem zip_rp {K : PySem.W.Frag} {F : Fz} {H : Hp} : ∀ {ds : List D} {xs : List V}, RpL K F H ds xs → ∀ z ∈ xs.zip ds, Rp K F H z.2 z.1
  | [], _, _, z, hz => by simp at hz
  | d :: ds, _, h, z, hz => by
    simp only [RpL] at h
    obtain ⟨x, xs, rfl, h1, h2⟩ := h
    rw [List.zip_cons_cons, List.mem_cons] at hz
    rcases hz with rfl | hz
    · exact h1
    · exact zip_rp h2 z hz
theorem rpl_zs {K : PySem.W.Frag} {F : Fz} {H : Hp} : ∀ {zs : List (V × D)}, (∀ z ∈ zs, Rp K F H z.2 z.1) → RpL K F H (zs.map Prod.snd) (zs.map Prod.fst)
  | [], _ => by simp [RpL]
  | z :: zs, h => by
    simp only [List.map_cons, RpL]
    exact ⟨_, _, rfl, h z (by simp), rpl_zs fun y hy => h y (by simp [hy])⟩
/-! ### min -/
theorem min_parts {ds : List PyData} (h : minOk ds = true) : PySem.W.AlikeAll ds ∧ ∀ d ∈ ds, d.depth ≤ 60 := by
  unfold minOk at h
  rw [Bool.and_eq_true, Bool.and_eq_true] at h
  obtain ⟨⟨h1, h2⟩, h3⟩ := h
  refine ⟨⟨fun d hd e he => List.all_eq_true.mp (List.all_eq_true.mp h1 d hd) e he, fun d hd q => ?_⟩, fun d hd => of_decide_eq_true (List.all_eq_true.mp h3 d hd)⟩
  have := List.all_eq_true.mp h2 d hd
  rw [q] at this
  cases this
theorem dep_all {k : Nat} : ∀ {ds : List PyData}, (∀ d ∈ ds, d.depth ≤ k) → PyData.depthAll ds ≤ k
  | [], _ => by simp [PyData.depthAll]
  | e :: ds, h => by
    simp only [PyData.depthAll]
    have h1 := h e (by simp)
    have h2 := dep_all (ds := ds) fun d hd => h d (by simp [hd])
    omega
def rMinD (K : PySem.W.Frag) : List V → Hp → VK → Prop := fun vs H Q => ∃ (a : Addr) (xs : List V) (d : PyData) (ds : List PyData), vs = [.ref a] ∧ SqL K H a xs ∧ DpAll K H xs (d :: ds) ∧ minOk (d :: ds) = true ∧
  ∀ z, z ∈ xs.zip (d :: ds) → z.2 = PySem.W.minD d ds → Q z.1 H
theorem vals_at : ∀ {xs : List V} {us : List Value} {i : Nat} {u : Value}, Vals xs us → us[i]? = some u → ∃ x, xs[i]? = some x ∧ RelV x u
  | _, _, i, u, .nil, h => by simp at h
  | _, _, 0, u, .cons r _, h => by
    simp at h
    subst h
    exact ⟨_, rfl, r⟩
  | _, _, i + 1, u, .cons _ rs, h => by
    obtain ⟨x, e, r⟩ := vals_at (i := i) rs (by simpa using h)
    exact ⟨x, by simpa using e, r⟩
theorem reads_ix {h : Heap} : ∀ {us : List Value} {ds : List PyData} {as : List Addr} {i : Nat} {u : Value}, ReadsAll h us ds as → us[i]? = some u → ∃ d as, ds[i]? = some d ∧ Reads h u d as
  | _, _, _, i, u, .nil, e => by simp at e
  | _, _, _, 0, u, .cons r _, e => by
    simp at e
    subst e
    exact ⟨_, _, rfl, r⟩
  | _, _, _, i + 1, u, .cons _ rs, e => by
    obtain ⟨d, as, e1, r⟩ := reads_ix (i := i) rs (by simpa using e)
    exact ⟨d, as, by simpa using e1, r⟩
theorem cr_minD (hc : X.calm = true) (hu : X.A.units + 80 < cLine) : CallR X (.builtin "min") (rMinD X.K) := by
  intro pins s σ H vs us Q I r h
  obtain ⟨a, xs, d, ds, rfl, hs, hd, hk, q⟩ := h
  obtain ⟨its, rv, hl, hz⟩ := I.list hs
  rw [Vals.ref1 r]
  obtain ⟨k1, k2⟩ := min_parts hk
  obtain ⟨as, ra⟩ := Dp.readsAll I (d :: ds) xs its hd rv
  have hdep := dep_all k2
  refine PySem.W.min_list_data (I.ok.hd hc) hl.isList ra k1 (by omega) fun i v h' tk bs hi hr hkeep => ?_
  have hi : its[i]? = some v := by simpa using hi
  obtain ⟨x, ex, rx⟩ := vals_at rv hi
  obtain ⟨d', as', ed, rd⟩ := reads_ix ra hi
  have edet := (PyProof.Rows.reads_det (fun b o e _ => hkeep b o e) rd hr).1
  have hmem : (x, d') ∈ xs.zip (d :: ds) := by
    refine List.mem_of_getElem? (i := i) ?_
    rw [List.getElem?_zip_eq_some]
    exact ⟨ex, ed⟩
  exact ⟨x, H, I.kept hkeep, rx, q _ hmem edet.symm⟩
end
end Mi

end
section
set_option maxHeartbeats 1000000
/-! Mi8: comparisons, places, slices. -/
namespace Mi
open PySem L2

section
variable {K : PySem.W.Frag} {L : Nat → Addr → Prop} {F F1 F2 : Fz} {H H1 H2 : Hp} {r r1 r2 : En} {σ : St} {B B1 B2 : List Addr}
theorem scal_eq {d e : D} {v1 v2 : V} (h1 : Shv K F H d v1) (h2 : Shv K F H e v2) (s : scalD d e = true) : scal v1 v2 = true ∧ PyData.eqv d e = decide (v1 = v2) := by
  cases d <;> cases e <;> simp only [scalD, Bool.false_eq_true] at s <;> simp only [Shv, Rp] at h1 h2 <;> subst h1 <;> subst h2 <;> refine ⟨rfl, ?_⟩ <;> simp [PyData.eqv]
  all_goals first | (rw [Bool.beq_eq_decide_eq]; done) | skip
theorem flat_of {d : D} {v : V} (h : Rp K F H d v) (f : flatD d = true) : flatV v = true := by
  cases d <;> simp only [flatD, Bool.false_eq_true] at f <;> simp only [Rp] at h <;> subst h <;> rfl
theorem flat_shv {d : D} {v : V} (h : Shv K F H d v) (f : flatD d = true) : Rp K F H d v := by
  cases d <;> simp only [flatD, Bool.false_eq_true] at f <;> exact h
theorem eqV_of {d e : D} {v w : V} (h : Rp K F H d v) (h2 : Rp K F H e w) (f : flatD d = true) (g : flatD e = true) : eqV v w = PyData.eqv d e := by
  cases d <;> simp only [flatD, Bool.false_eq_true] at f <;> cases e <;> simp only [flatD, Bool.false_eq_true] at g <;> simp only [Rp] at h h2 <;> subst h <;> subst h2 <;> rfl
theorem flats_of : ∀ {ds : List D} {xs : List V}, RpL K F H ds xs → ds.all flatD = true → xs.all flatV = true
  | [], _, h, _ => by simp only [RpL] at h; subst h; rfl
  | d :: ds, _, h, f => by
    simp only [RpL] at h
    obtain ⟨x, xs, rfl, h1, h2⟩ := h
    simp only [List.all_cons, Bool.and_eq_true] at f ⊢
    exact ⟨flat_of h1 f.1, flats_of h2 f.2⟩
theorem any_of : ∀ {ds : List D} {xs : List V} {a : D} {v : V}, RpL K F H ds xs → ds.all flatD = true → Rp K F H a v → flatD a = true → (xs.any fun y => eqV y v) = ds.any fun y => PyData.eqv y a
  | [], _, _, _, h, _, _, _ => by simp only [RpL] at h; subst h; rfl
  | d :: ds, _, a, v, h, f, ha, fa => by
    simp only [RpL] at h
    obtain ⟨x, xs, rfl, h1, h2⟩ := h
    simp only [List.all_cons, Bool.and_eq_true] at f
    simp only [List.any_cons]
    rw [eqV_of h1 ha f.1 fa, any_of h2 f.2 ha fa]
theorem in_rule {a : D} {v1 : V} {ds : List D} {x : Addr} {xs : List V} (h1 : Shv K F H a v1) (f : (flatD a && ds.all flatD) = true) (e : RpL K F H ds xs) :
    flatV v1 = true ∧ xs.all flatV = true ∧ inV v1 xs = ds.any fun y => PyData.eqv y a := by
  rw [Bool.and_eq_true] at f
  have h1 := flat_shv h1 f.1
  exact ⟨flat_of h1 f.1, flats_of e f.2, any_of e f.2 h1 f.1⟩
/-- a comparison -/
theorem cmp_op {X : Cx} (hu : X.A.units + 64 < cLine) (op : Cop) (o : CmpOp) (hb : copB op o = true) (d e : D) (c : Bool) (he : cmpD op d e = some c) (hK : X.K = K) : ∃ R : R2, OpR X (compareOp o) R ∧
    ∀ (F : Fz) (H : Hp) (v1 v2 : V), Shv K F H d v1 → Shv K F H e v2 → ∀ Q : VK, Q (.bl c) H → R v1 v2 H Q := by
  subst hK
  unfold cmpD at he
  split at he
  all_goals (cases o <;> simp only [copB, Bool.false_eq_true] at hb)
  all_goals first | (cases he; done) | skip
  · split at he
    · rename_i hk
      cases he
      unfold eqOk at hk
      rw [Bool.or_eq_true] at hk
      rcases hk with hk | hk
      · refine ⟨_, op_eq, fun F H v1 v2 h1 h2 Q hQ => ?_⟩
        obtain ⟨s1, s2⟩ := scal_eq h1 h2 hk
        exact ⟨s1, by rw [← s2]; exact hQ⟩
      · rw [Bool.and_eq_true] at hk
        exact ⟨_, op_eqD hu, fun F H v1 v2 h1 h2 Q hQ => ⟨d, e, h1.dp, h2.dp, hk.1, hk.2, hQ⟩⟩
    · cases he
  · split at he
    · rename_i hk
      cases he
      unfold eqOk at hk
      rw [Bool.or_eq_true] at hk
      rcases hk with hk | hk
      · refine ⟨_, op_ne, fun F H v1 v2 h1 h2 Q hQ => ?_⟩
        obtain ⟨s1, s2⟩ := scal_eq h1 h2 hk
        exact ⟨s1, by rw [← s2]; exact hQ⟩
      · rw [Bool.and_eq_true] at hk
        exact ⟨_, op_neD hu, fun F H v1 v2 h1 h2 Q hQ => ⟨d, e, h1.dp, h2.dp, hk.1, hk.2, hQ⟩⟩
    · cases he
  · cases he
    refine ⟨_, op_isN, fun F H v1 v2 h1 h2 Q hQ => ?_⟩
    simp only [Shv, Rp] at h2
    refine ⟨h2, ?_⟩
    have e : decide (v1 = V.non) = isNone d := by
      cases d <;> simp only [Shv, Rp] at h1
      case none => subst h1; rfl
      case bool => subst h1; rfl
      case int => subst h1; rfl
      case str => subst h1; rfl
      case list => obtain ⟨a, xs, rfl, _⟩ := h1; rfl
      case tuple => obtain ⟨a, xs, rfl, _⟩ := h1; rfl
    rw [e]; exact hQ
  · cases he
    refine ⟨_, op_notN, fun F H v1 v2 h1 h2 Q hQ => ?_⟩
    simp only [Shv, Rp] at h2
    refine ⟨h2, ?_⟩
    have e : decide (v1 = V.non) = isNone d := by
      cases d <;> simp only [Shv, Rp] at h1
      case none => subst h1; rfl
      case bool => subst h1; rfl
      case int => subst h1; rfl
      case str => subst h1; rfl
      case list => obtain ⟨a, xs, rfl, _⟩ := h1; rfl
      case tuple => obtain ⟨a, xs, rfl, _⟩ := h1; rfl
    rw [e]; exact hQ
  · cases he
    exact ⟨_, op_isBl, fun F H v1 v2 h1 h2 Q hQ => by
      simp only [Shv, Rp] at h1 h2
      exact ⟨_, _, h1, h2, hQ⟩⟩
  · cases he
    exact ⟨_, op_notBl, fun F H v1 v2 h1 h2 Q hQ => by
      simp only [Shv, Rp] at h1 h2
      exact ⟨_, _, h1, h2, hQ⟩⟩
  · cases he
    exact ⟨_, op_lt, fun F H v1 v2 h1 h2 Q hQ => by
      simp only [Shv, Rp] at h1 h2
      exact ⟨_, _, h1, h2, hQ⟩⟩
  · cases he
    exact ⟨_, op_le, fun F H v1 v2 h1 h2 Q hQ => by
      simp only [Shv, Rp] at h1 h2
      exact ⟨_, _, h1, h2, hQ⟩⟩
  · cases he
    exact ⟨_, op_gt, fun F H v1 v2 h1 h2 Q hQ => by
      simp only [Shv, Rp] at h1 h2
      exact ⟨_, _, h1, h2, hQ⟩⟩
  · cases he
    exact ⟨_, op_ge, fun F H v1 v2 h1 h2 Q hQ => by
      simp only [Shv, Rp] at h1 h2
      exact ⟨_, _, h1, h2, hQ⟩⟩
  · split at he
    · rename_i a b e1 e2
      cases he
      refine ⟨_, op_ltT (by omega), fun F H v1 v2 h1 h2 Q hQ => ?_⟩
      simp only [Shv, Rp] at h1 h2
      obtain ⟨p, as, rfl, p1, q1⟩ := h1
      obtain ⟨q, bs, rfl, p2, q2⟩ := h2
      have f1 := rpl_intL q1 e1
      have f2 := rpl_intL q2 e2
      subst f1 f2
      exact ⟨p, q, a, b, rfl, rfl, p1, p2, hQ⟩
    · cases he
  · split at he
    · rename_i hk
      cases he
      refine ⟨_, op_in_seq, fun F H v1 v2 h1 h2 Q hQ => ?_⟩
      simp only [Shv] at h2
      obtain ⟨a, xs, rfl, p1, q1⟩ := h2
      obtain ⟨g1, g2, g3⟩ := in_rule (x := a) h1 hk q1
      exact ⟨a, xs, rfl, .inl (SqL.of p1), g1, g2, by
        show Q (.bl (inV v1 xs)) H
        rw [g3]; exact hQ⟩
    · cases he
  · split at he
    · rename_i hk
      cases he
      refine ⟨_, op_in_seq, fun F H v1 v2 h1 h2 Q hQ => ?_⟩
      simp only [Shv, Rp] at h2
      obtain ⟨a, xs, rfl, p1, q1⟩ := h2
      obtain ⟨g1, g2, g3⟩ := in_rule (x := a) h1 hk q1
      exact ⟨a, xs, rfl, .inr p1, g1, g2, by
        show Q (.bl (inV v1 xs)) H
        rw [g3]; exact hQ⟩
    · cases he
  · split at he
    · rename_i hk
      cases he
      refine ⟨_, op_notIn_seq, fun F H v1 v2 h1 h2 Q hQ => ?_⟩
      simp only [Shv] at h2
      obtain ⟨a, xs, rfl, p1, q1⟩ := h2
      obtain ⟨g1, g2, g3⟩ := in_rule (x := a) h1 hk q1
      exact ⟨a, xs, rfl, .inl (SqL.of p1), g1, g2, by
        show Q (.bl (!inV v1 xs)) H
        rw [g3]; exact hQ⟩
    · cases he
  · split at he
    · rename_i hk
      cases he
      refine ⟨_, op_notIn_seq, fun F H v1 v2 h1 h2 Q hQ => ?_⟩
      simp only [Shv, Rp] at h2
      obtain ⟨a, xs, rfl, p1, q1⟩ := h2
      obtain ⟨g1, g2, g3⟩ := in_rule (x := a) h1 hk q1
      exact ⟨a, xs, rfl, .inr p1, g1, g2, by
        show Q (.bl (!inV v1 xs)) H
        rw [g3]; exact hQ⟩
    · cases he
  · split at he
    · rename_i hk
      cases he
      exact ⟨_, op_ltO hu, fun F H v1 v2 h1 h2 Q hQ => ⟨d, e, h1.dp, h2.dp, hk, hQ⟩⟩
    · cases he
  · split at he
    · rename_i hk
      cases he
      exact ⟨_, op_gtO hu, fun F H v1 v2 h1 h2 Q hQ => ⟨d, e, h1.dp, h2.dp, hk, hQ⟩⟩
    · cases he
  · split at he
    · rename_i hk
      cases he
      exact ⟨_, op_leO hu, fun F H v1 v2 h1 h2 Q hQ => ⟨d, e, h1.dp, h2.dp, hk, hQ⟩⟩
    · cases he
  · split at he
    · rename_i hk
      cases he
      exact ⟨_, op_geO hu, fun F H v1 v2 h1 h2 Q hQ => ⟨d, e, h1.dp, h2.dp, hk, hQ⟩⟩
    · cases he

/-! ### an item -/
theorem child_ok {X : Cx} (o c : O) (k : Int) (he : o.child k = some c) (hK : X.K = K) : ∃ R : R2, IxR X R ∧
    ∀ (F : Fz) (H : Hp) (v : V) (A : List Addr), RO K L F H o v A → ∀ Q : VK, (∀ w A', RO K L F H c w A' → (∀ a ∈ A', a ∈ A) → Q w H) → R v (.int k) H Q := by
  subst hK
  unfold O.child at he
  split at he
  · refine ⟨_, ix_list, fun F H v A h Q hQ => ?_⟩
    simp only [RO] at h
    obtain ⟨a, xs, A1, rfl, h1, h2, rfl⟩ := h
    obtain ⟨x, A3, e1, e2, e3⟩ := rol_at h2 he
    exact ⟨a, xs, k, x, rfl, rfl, SqL.of h1, e1, hQ x A3 e2 fun b hb => by simp [e3 b hb]⟩
  · refine ⟨_, ix_tup, fun F H v A h Q hQ => ?_⟩
    simp only [RO] at h
    obtain ⟨a, xs, rfl, h1, h2⟩ := h
    obtain ⟨x, A3, e1, e2, e3⟩ := rol_at h2 he
    exact ⟨a, xs, k, x, rfl, rfl, h1, e1, hQ x A3 e2 e3⟩
  · refine ⟨_, ix_list, fun F H v A h Q hQ => ?_⟩
    simp only [RO, Rp] at h
    obtain ⟨⟨a, xs, rfl, h1, _, h2⟩, rfl⟩ := h
    rw [Option.map_eq_some_iff] at he
    obtain ⟨d, e, rfl⟩ := he
    obtain ⟨x, e1, e2⟩ := rpl_at h2 e
    exact ⟨a, xs, k, x, rfl, rfl, SqL.of h1, e1, hQ x [] (by simp only [RO]; exact ⟨e2, trivial⟩) (by simp)⟩
  · refine ⟨_, ix_tup, fun F H v A h Q hQ => ?_⟩
    simp only [RO, Rp] at h
    obtain ⟨⟨a, xs, rfl, h1, h2⟩, rfl⟩ := h
    rw [Option.map_eq_some_iff] at he
    obtain ⟨d, e, rfl⟩ := he
    obtain ⟨x, e1, e2⟩ := rpl_at h2 e
    exact ⟨a, xs, k, x, rfl, rfl, h1, e1, hQ x [] (by simp only [RO]; exact ⟨e2, trivial⟩) (by simp)⟩
  · split at he
    · rename_i hz
      refine ⟨_, ix_str, fun F H v A h Q hQ => ?_⟩
      simp only [RO, Rp] at h
      obtain ⟨rfl, rfl⟩ := h
      rw [Option.map_eq_some_iff] at he
      obtain ⟨d, e, rfl⟩ := he
      exact ⟨_, k, d, rfl, rfl, hz, e, hQ _ [] (by simp only [RO, Rp]; exact ⟨trivial, trivial⟩) (by simp)⟩
    · cases he
  · refine ⟨_, ix_list, fun F H v A h Q hQ => ?_⟩
    simp only [RO] at h
    obtain ⟨a, rfl, h1, rfl⟩ := h
    rw [Option.map_eq_some_iff] at he
    obtain ⟨d, e, rfl⟩ := he
    have e1 : atI (List.map V.int ‹List Int›) k = some (.int d) := by
      unfold atI at e ⊢
      rw [List.length_map]
      cases q : ixN (List.length ‹List Int›) k with
      | none => rw [q] at e; cases e
      | some j =>
        rw [q] at e
        simp only [Option.bind_some, List.getElem?_map] at e ⊢
        rw [e]; rfl
    exact ⟨a, _, k, _, rfl, rfl, h1.seq, e1, hQ _ [] (by simp only [RO, Rp]; exact ⟨trivial, trivial⟩) (by simp)⟩
  · cases he

/-! ### slices -/
theorem cutV_map (ns : List Int) (lo hi : Option Int) : cutV (ns.map V.int) lo hi = (cutL ns lo hi).map V.int := by
  unfold cutV cutL
  rw [List.length_map, List.map_take, List.map_drop]
theorem cut_ok {X : Cx} (o res : O) (lo hi : Option Int) (he : cutO lo hi o = some res) (hK : X.K = K) : ∃ R, SlR X R ∧
    ∀ (F : Fz) (H : Hp) (v : V) (A : List Addr), RO K L F H o v A → ∀ Q : VK, (∀ w H', NewO K F H res w H' → Q w H') → R v lo hi H Q := by
  subst hK
  unfold cutO at he
  split at he
  · cases he
    refine ⟨_, sl_list, fun F H v A h Q hQ => ?_⟩
    simp only [RO, Rp] at h
    obtain ⟨⟨a, xs, rfl, h1, _, h2⟩, rfl⟩ := h
    exact ⟨a, xs, rfl, SqL.of h1, fun p hp => hQ _ _ (.inr (.inl ⟨_, _, p, rfl, rpl_cut lo hi h2, hp, rfl, rfl⟩))⟩
  · cases he
    refine ⟨_, sl_tupA, fun F H v A h Q hQ => ?_⟩
    simp only [RO, Rp] at h
    obtain ⟨⟨a, xs, rfl, h1, h2⟩, rfl⟩ := h
    refine ⟨a, xs, rfl, h1, fun hw => ?_, fun _ p hp => hQ _ _ (.inr (.inr ⟨_, _, p, rfl, rpl_cut lo hi h2, hp, rfl, rfl⟩))⟩
    have e : cutV xs lo hi = xs := by
      unfold cutV
      rw [hw.1, hw.2]
      simp
    have q := rpl_cut lo hi h2
    rw [e] at q
    exact hQ _ _ (.inl ⟨_, rfl, by simp only [Rp]; exact ⟨a, xs, rfl, h1, q⟩, rfl⟩)
  · rw [Option.map_eq_some_iff] at he
    obtain ⟨ds, e, rfl⟩ := he
    refine ⟨_, sl_list, fun F H v A h Q hQ => ?_⟩
    simp only [RO] at h
    obtain ⟨a, xs, A1, rfl, h1, h2, rfl⟩ := h
    exact ⟨a, xs, rfl, SqL.of h1, fun p hp => hQ _ _ (.inr (.inl ⟨_, _, p, rfl, rpl_cut lo hi (rol_vals h2 e).1, hp, rfl, rfl⟩))⟩
  · cases he
    refine ⟨_, sl_list, fun F H v A h Q hQ => ?_⟩
    simp only [RO] at h
    obtain ⟨a, rfl, h1, rfl⟩ := h
    refine ⟨a, _, rfl, h1.seq, fun p hp => hQ _ _ (.inr (.inl ⟨(cutL ‹List Int› lo hi).map PyData.int, _, p, by rw [List.map_map]; rfl, ?_, hp, rfl, rfl⟩))⟩
    rw [cutV_map]
    exact rpl_ints _
  · cases he
end
end Mi

end
section
set_option maxHeartbeats 1000000
/-! Mi9: built-ins on data. -/
namespace Mi
open PySem L2

section
variable {K : PySem.W.Frag} {H : Hp}
mutual
theorem noDictD : ∀ {d : D} {v : V}, Dp K H v d → d.hasDict = false
  | .none, _, _ => rfl
  | .bool _, _, _ => rfl
  | .int _, _, _ => rfl
  | .str _, _, _ => rfl
  | .list ds, _, h => by
    cases h with
    | lst _ h2 => simpa [PyData.hasDict] using noDictL h2
  | .tuple ds, _, h => by
    cases h with
    | tup _ h2 => simpa [PyData.hasDict] using noDictL h2
  | .dict _, _, h => by cases h
theorem noDictL : ∀ {ds : List D} {vs : List V}, DpAll K H vs ds → PyData.hasDictAll ds = false
  | [], _, _ => rfl
  | d :: ds, _, h => by
    cases h with
    | cons h1 h2 => simp [PyData.hasDictAll, noDictD h1, noDictL h2]
end
end
section
variable {X : Cx}
/-- repr of data -/
theorem cr_repr (hg : X.A.guards = some []) (hu : X.A.units + 80 < cLine) : CallR X (.builtin "repr") (fun xs H Q => ∃ v d, xs = [v] ∧ Dp X.K H v d ∧ repOk d = true ∧ Q (.str d.shown) H) := by
  intro pins s σ H xs us Q I r h
  obtain ⟨v, d, rfl, hd, ok, q⟩ := h
  obtain ⟨u, rfl, ru⟩ := Vals.one r
  unfold repOk at ok
  rw [Bool.and_eq_true, Bool.and_eq_true] at ok
  obtain ⟨⟨ok1, ok2⟩, ok3⟩ := ok
  have ok2 := of_decide_eq_true ok2
  have ok3 := of_decide_eq_true ok3
  have go : ∀ (h' : Heap) (u' : Tok) (tk : Nat), (∀ b o, s.heap.get? b = some o → h'.get? b = some o) → EP X pins σ Q (.str d.shown u') { s with heap := h', toks := tk } := fun h' u' tk k =>
    ⟨.str d.shown, H, I.kept k, ⟨_, rfl⟩, q⟩
  have go0 : ∀ (u' : Tok) (tk : Nat), EP X pins σ Q (.str d.shown u') { s with toks := tk } := fun u' tk => go s.heap u' tk fun _ _ e => e
  cases d with
  | none => cases hd; cases ru; exact PySem.P.repr_of_none (go0 _ _)
  | bool b =>
    cases hd; cases ru
    refine PySem.P.repr_of_bool ?_
    have := go0 s.toks (s.toks + 1)
    simpa only [PyData.shown] using this
  | int i =>
    cases hd
    obtain ⟨t, rfl⟩ := ru
    have hi : i.natAbs.log2 < 1920 := by simpa [PyData.showable] using ok1
    refine PySem.P.repr_of_int hi ?_
    have := go0 s.toks (s.toks + 1)
    simpa only [PyData.shown] using this
  | str x =>
    cases hd
    obtain ⟨t, rfl⟩ := ru
    refine PySem.P.repr_of_str ?_ (by simpa only [PyData.shown] using ok3)
    have := go0 s.toks (s.toks + 1)
    simpa only [PyData.shown] using this
  | list ds =>
    obtain ⟨as, R⟩ := Dp.reads I _ v u hd ru
    cases hd with
    | lst h1 h2 =>
      cases ru
      exact repr_of_reads' R ok1 (PyData.noDict_hsm (by simpa [PyData.hasDict] using noDictL h2)) hg (by omega) (fun _ _ e => e) (fun h' u' tk k => go h' u' tk k) ok3
  | tuple ds =>
    obtain ⟨as, R⟩ := Dp.reads I _ v u hd ru
    cases hd with
    | tup h1 h2 =>
      cases ru
      exact repr_of_reads' R ok1 (PyData.noDict_hsm (by simpa [PyData.hasDict] using noDictL h2)) hg (by omega) (fun _ _ e => e) (fun h' u' tk k => go h' u' tk k) ok3
  | dict kvs => cases hd
end
end Mi

end
section
set_option maxHeartbeats 1000000
/-! Mi10: the call of a built-in. -/
namespace Mi
open PySem L2

section
variable {X : Cx}
theorem cr_sumT (hc : X.calm = true) : CallR X (.builtin "sum") (fun vs H Q => ∃ (a : Addr) (ns : List Int), vs = [V.ref a] ∧ SqT X.K H a (ns.map V.int) ∧ Q (.int ns.sum) H) := by
  intro pins s σ H xs us Q I r h
  obtain ⟨a, ns, rfl, hs, q⟩ := h
  obtain ⟨u, rfl, ru⟩ := Vals.one r
  cases ru
  obtain ⟨its, rv, p, hz⟩ := I.tuple hs
  have hi := intsAre_of rv
  have hl : s.heap.IsTuple a its.toArray := p
  obtain ⟨xs, hx⟩ := hi.allInts.items
  have hn : PySem.numsOf its.toArray.toList = ns := by rw [show its.toArray.toList = its from rfl, hi.numsOf]
  rw [hx] at hl hn
  rw [PySem.nums_intItems] at hn
  refine PySem.W.ktm_sumG (I.ok.hd hc) hl fun h' tk t' hk => ?_
  rw [preSum_eq, List.take_of_length_le (by simp), hn]
  exact ⟨.int _, H, I.kept hk, ⟨_, rfl⟩, q⟩
end

def biVal : Bi → Value
  | .len => .builtin "len" | .abs => .builtin "abs" | .max2 => .builtin "max" | .min2 => .builtin "min" | .max1 => .builtin "max" | .min1 => .builtin "min"
  | .sum => .builtin "sum" | .all => .builtin "all" | .any => .builtin "any" | .divmod => .builtin "divmod" | .int => .type "int" | .list => .type "list"
  | .tuple => .type "tuple" | .sorted => .builtin "sorted" | .repr => .builtin "repr" | .str => .type "str"
theorem boot_bi (b : Bi) : bootBuiltins (biName b) = some (biVal b) := by cases b <;> decide +kernel

theorem greatL_ge : ∀ (r : List Int) (m : Int), m ≤ greatL m r ∧ ∀ y ∈ r, y ≤ greatL m r
  | [], m => ⟨Int.le_refl _, by simp⟩
  | i :: r, m => by
    unfold greatL
    by_cases hlt : m < i
    · rw [if_pos hlt]
      have h := greatL_ge r i
      exact ⟨by omega, fun y hy => (List.mem_cons.mp hy).elim (fun e => by rw [e]; exact h.1) fun q => h.2 y q⟩
    · rw [if_neg hlt]
      have h := greatL_ge r m
      exact ⟨h.1, fun y hy => (List.mem_cons.mp hy).elim (fun e => by rw [e]; omega) fun q => h.2 y q⟩
theorem greatL_mem : ∀ (r : List Int) (m : Int), greatL m r = m ∨ greatL m r ∈ r
  | [], m => .inl rfl
  | i :: r, m => by
    unfold greatL
    rcases greatL_mem r (if m < i then i else m) with h | h
    · rw [h]
      split
      · exact .inr (by simp)
      · exact .inl rfl
    · exact .inr (by simp [h])
theorem leastL_le : ∀ (r : List Int) (m : Int), leastL m r ≤ m ∧ ∀ y ∈ r, leastL m r ≤ y
  | [], m => ⟨Int.le_refl _, by simp⟩
  | i :: r, m => by
    unfold leastL
    by_cases hlt : i < m
    · rw [if_pos hlt]
      have h := leastL_le r i
      exact ⟨by omega, fun y hy => (List.mem_cons.mp hy).elim (fun e => by rw [e]; exact h.1) fun q => h.2 y q⟩
    · rw [if_neg hlt]
      have h := leastL_le r m
      exact ⟨h.1, fun y hy => (List.mem_cons.mp hy).elim (fun e => by rw [e]; omega) fun q => h.2 y q⟩
theorem leastL_mem : ∀ (r : List Int) (m : Int), leastL m r = m ∨ leastL m r ∈ r
  | [], m => .inl rfl
  | i :: r, m => by
    unfold leastL
    rcases leastL_mem r (if i < m then i else m) with h | h
    · rw [h]
      split
      · exact .inr (by simp)
      · exact .inl rfl
    · exact .inr (by simp [h])
theorem great_is {i : Int} {r : List Int} {m : Int} (h1 : m ∈ i :: r) (h2 : ∀ y ∈ i :: r, y ≤ m) : m = greatL i r := by
  have h := greatL_ge r i
  have h3 : greatL i r ≤ m := by
    rcases greatL_mem r i with e | e
    · rw [e]; exact h2 i (by simp)
    · exact h2 _ (by simp [e])
  rcases List.mem_cons.mp h1 with rfl | h1
  · omega
  · have := h.2 m h1; omega
theorem least_is {i : Int} {r : List Int} {m : Int} (h1 : m ∈ i :: r) (h2 : ∀ y ∈ i :: r, m ≤ y) : m = leastL i r := by
  have h := leastL_le r i
  have h3 : m ≤ leastL i r := by
    rcases leastL_mem r i with e | e
    · rw [e]; exact h2 i (by simp)
    · exact h2 _ (by simp [e])
  rcases List.mem_cons.mp h1 with rfl | h1
  · omega
  · have := h.2 m h1; omega

section
variable {K : PySem.W.Frag} {L : Nat → Addr → Prop} {F F1 F2 : Fz} {H H1 H2 : Hp}
/-- a rule for values, with what is asked of the looked-at contents -/
theorem biD_call {X : Cx} (hc : X.calm = true) (hu : X.A.units + 80 < cLine) (b : Bi) (ds : List D) (res : O) (he : biD b ds = some res) (hK : X.K = K) : ∃ R, CallR X (biVal b) R ∧
    ∀ (F : Fz) (H : Hp) (vs : List V), vs.length = ds.length → (∀ (i : Nat) (d : D) (v : V), ds[i]? = some d → vs[i]? = some v → Shv K F H d v) → ∀ Q : VK, (∀ v H', NewO K F H res v H' → Q v H') → R vs H Q := by
  subst hK
  have one : ∀ {F : Fz} {H : Hp} {vs : List V} {d : D}, vs.length = [d].length → (∀ (i : Nat) (e : D) (v : V), [d][i]? = some e → vs[i]? = some v → Shv X.K F H e v) → ∃ v, vs = [v] ∧ Shv X.K F H d v := by
    intro F H vs d hl hs
    match vs, hl with
    | [v], _ => exact ⟨v, rfl, hs 0 d v rfl rfl⟩
  have two : ∀ {F : Fz} {H : Hp} {vs : List V} {d e : D}, vs.length = [d, e].length → (∀ (i : Nat) (x : D) (v : V), [d, e][i]? = some x → vs[i]? = some v → Shv X.K F H x v) → ∃ v w, vs = [v, w] ∧ Shv X.K F H d v ∧ Shv X.K F H e w := by
    intro F H vs d e hl hs
    match vs, hl with
    | [v, w], _ => exact ⟨v, w, rfl, hs 0 d v rfl rfl, hs 1 e w rfl rfl⟩
  unfold biD at he
  split at he
  · cases he
    refine ⟨_, call_abs, fun F H vs hl hs Q hQ => ?_⟩
    obtain ⟨v, rfl, h1⟩ := one hl hs
    simp only [Shv, Rp] at h1
    subst h1
    exact ⟨_, rfl, hQ _ _ .int⟩
  · cases he
    refine ⟨_, call_max2 hc, fun F H vs hl hs Q hQ => ?_⟩
    obtain ⟨v, w, rfl, h1, h2⟩ := two hl hs
    simp only [Shv, Rp] at h1 h2
    subst h1 h2
    exact ⟨_, _, rfl, hQ _ _ .int⟩
  · cases he
    refine ⟨_, call_min2 hc, fun F H vs hl hs Q hQ => ?_⟩
    obtain ⟨v, w, rfl, h1, h2⟩ := two hl hs
    simp only [Shv, Rp] at h1 h2
    subst h1 h2
    exact ⟨_, _, rfl, hQ _ _ .int⟩
  · split at he
    · rename_i hk
      cases he
      refine ⟨_, call_divmod, fun F H vs hl hs Q hQ => ?_⟩
      obtain ⟨v, w, rfl, h1, h2⟩ := two hl hs
      simp only [Shv, Rp] at h1 h2
      subst h1 h2
      refine ⟨_, _, rfl, hk, fun p hp => hQ _ _ (.inr (.inr ⟨_, _, p, rfl, ?_, hp, rfl, rfl⟩))⟩
      exact rpl_ints [_, _]
    · cases he
  · cases he
    refine ⟨_, call_int1, fun F H vs hl hs Q hQ => ?_⟩
    obtain ⟨v, rfl, h1⟩ := one hl hs
    simp only [Shv, Rp] at h1
    subst h1
    exact .inl ⟨_, rfl, hQ _ _ .int⟩
  · cases he
    refine ⟨_, call_int1, fun F H vs hl hs Q hQ => ?_⟩
    obtain ⟨v, rfl, h1⟩ := one hl hs
    simp only [Shv, Rp] at h1
    subst h1
    exact .inr ⟨_, rfl, hQ _ _ .int⟩
  · split at he
    · rename_i hk
      cases he
      refine ⟨_, call_str_int, fun F H vs hl hs Q hQ => ?_⟩
      obtain ⟨v, rfl, h1⟩ := one hl hs
      simp only [Shv, Rp] at h1
      subst h1
      exact ⟨_, rfl, hk, hQ _ _ .str⟩
    · cases he
  · rw [Option.map_eq_some_iff] at he
    obtain ⟨ns, e, rfl⟩ := he
    refine ⟨_, cr_sum hc, fun F H vs hl hs Q hQ => ?_⟩
    obtain ⟨v, rfl, h1⟩ := one hl hs
    obtain ⟨a, xs, rfl, p1, q1⟩ := h1
    have := rpl_intL q1 e
    subst this
    exact ⟨a, ns, rfl, SqL.of p1, hQ _ _ .int⟩
  · rw [Option.map_eq_some_iff] at he
    obtain ⟨ns, e, rfl⟩ := he
    refine ⟨_, cr_sumT hc, fun F H vs hl hs Q hQ => ?_⟩
    obtain ⟨v, rfl, h1⟩ := one hl hs
    simp only [Shv, Rp] at h1
    obtain ⟨a, xs, rfl, p1, q1⟩ := h1
    have := rpl_intL q1 e
    subst this
    exact ⟨a, ns, rfl, p1, hQ _ _ .int⟩
  · rw [Option.map_eq_some_iff] at he
    obtain ⟨ns, e, rfl⟩ := he
    refine ⟨_, cr_all hc, fun F H vs hl hs Q hQ => ?_⟩
    obtain ⟨v, rfl, h1⟩ := one hl hs
    obtain ⟨a, xs, rfl, p1, q1⟩ := h1
    have := rpl_boolL q1 e
    subst this
    exact ⟨a, ns, rfl, SqL.of p1, hQ _ _ .bl⟩
  · rw [Option.map_eq_some_iff] at he
    obtain ⟨ns, e, rfl⟩ := he
    refine ⟨_, cr_any hc, fun F H vs hl hs Q hQ => ?_⟩
    obtain ⟨v, rfl, h1⟩ := one hl hs
    obtain ⟨a, xs, rfl, p1, q1⟩ := h1
    have := rpl_boolL q1 e
    subst this
    exact ⟨a, ns, rfl, SqL.of p1, hQ _ _ .bl⟩
  · split at he
    · rename_i i r e
      cases he
      refine ⟨_, cr_max hc, fun F H vs hl hs Q hQ => ?_⟩
      obtain ⟨v, rfl, h1⟩ := one hl hs
      obtain ⟨a, xs, rfl, p1, q1⟩ := h1
      have := rpl_intL q1 e
      subst this
      exact ⟨a, _, rfl, SqL.of p1, by simp, fun m g1 g2 => by
        rw [great_is g1 g2]
        exact hQ _ _ .int⟩
    · cases he
  · split at he
    · rename_i i r e
      cases he
      refine ⟨_, cr_min hc, fun F H vs hl hs Q hQ => ?_⟩
      obtain ⟨v, rfl, h1⟩ := one hl hs
      obtain ⟨a, xs, rfl, p1, q1⟩ := h1
      have := rpl_intL q1 e
      subst this
      exact ⟨a, _, rfl, SqL.of p1, by simp, fun m g1 g2 => by
        rw [least_is g1 g2]
        exact hQ _ _ .int⟩
    · split at he
      · rename_i d r hds
        split at he
        · rename_i hk
          cases he
          refine ⟨_, cr_minD hc hu, fun F H vs hl hs Q hQ => ?_⟩
          obtain ⟨v, rfl, h1⟩ := one hl hs
          obtain ⟨a, xs, rfl, p1, q1⟩ := h1
          refine ⟨a, xs, d, r, rfl, SqL.of p1, RpL.dp _ _ q1, hk, fun z hz e => hQ _ _ (.inl ⟨_, rfl, ?_, rfl⟩)⟩
          have := zip_rp q1 z hz
          rw [e] at this
          exact this
        · cases he
      · cases he
  · split at he
    · rename_i hk
      cases he
      refine ⟨_, cr_srtD hu, fun F H vs hl hs Q hQ => ?_⟩
      obtain ⟨v, rfl, h1⟩ := one hl hs
      obtain ⟨a, xs, rfl, p1, q1⟩ := h1
      refine ⟨a, xs, _, rfl, SqL.of p1, RpL.dp _ _ q1, hk, fun zs p hz e hp => hQ _ _ (.inr (.inl ⟨_, _, p, rfl, ?_, hp, rfl, rfl⟩))⟩
      rw [← e]
      exact rpl_zs fun z h => zip_rp q1 z (hz z h)
    · cases he
  · cases he
    refine ⟨_, call_list_of, fun F H vs hl hs Q hQ => ?_⟩
    obtain ⟨v, rfl, h1⟩ := one hl hs
    obtain ⟨a, xs, rfl, p1, q1⟩ := h1
    exact ⟨a, xs, rfl, .inl (SqL.of p1), fun p hp => hQ _ _ (.inr (.inl ⟨_, _, p, rfl, q1, hp, rfl, rfl⟩))⟩
  · cases he
    refine ⟨_, call_list_of, fun F H vs hl hs Q hQ => ?_⟩
    obtain ⟨v, rfl, h1⟩ := one hl hs
    simp only [Shv, Rp] at h1
    obtain ⟨a, xs, rfl, p1, q1⟩ := h1
    exact ⟨a, xs, rfl, .inr p1, fun p hp => hQ _ _ (.inr (.inl ⟨_, _, p, rfl, q1, hp, rfl, rfl⟩))⟩
  · cases he
    refine ⟨_, call_tuple_of, fun F H vs hl hs Q hQ => ?_⟩
    obtain ⟨v, rfl, h1⟩ := one hl hs
    obtain ⟨a, xs, rfl, p1, q1⟩ := h1
    exact ⟨a, xs, rfl, .inl ⟨SqL.of p1, fun p hp => hQ _ _ (.inr (.inr ⟨_, _, p, rfl, q1, hp, rfl, rfl⟩))⟩⟩
  · cases he
    refine ⟨_, call_tuple_of, fun F H vs hl hs Q hQ => ?_⟩
    obtain ⟨v, rfl, h1⟩ := one hl hs
    simp only [Shv, Rp] at h1
    obtain ⟨a, xs, rfl, p1, q1⟩ := h1
    exact ⟨a, xs, rfl, .inr ⟨p1, hQ _ _ (.inl ⟨_, rfl, by simp only [Rp]; exact ⟨a, xs, rfl, p1, q1⟩, rfl⟩)⟩⟩
  · cases he

theorem bi_call {X : Cx} (hc : X.calm = true) (hg : X.A.guards = some []) (hu : X.A.units + 80 < cLine) (b : Bi) (os : List O) (res : O) (he : biE b os = some res) (hK : X.K = K) : ∃ R, CallR X (biVal b) R ∧
    ∀ (F : Fz) (H : Hp) (vs : List V) (A : List Addr), ROL K L F H os vs A → ∀ Q : VK, (∀ v H', NewO K F H res v H' → Q v H') → R vs H Q := by
  subst hK
  have one : ∀ {F : Fz} {H : Hp} {vs : List V} {A : List Addr} {o : O}, ROL X.K L F H [o] vs A → ∃ v A1, vs = [v] ∧ RO X.K L F H o v A1 := by
    intro F H vs A o h
    simp only [ROL] at h
    obtain ⟨x, ys, A1, A2, rfl, h1, ⟨rfl, _⟩, _⟩ := h
    exact ⟨x, A1, rfl, h1⟩
  unfold biE at he
  split at he
  · cases he
    refine ⟨_, call_len_seq, fun F H vs A h Q hQ => ?_⟩
    obtain ⟨v, A1, rfl, h1⟩ := one h
    simp only [RO] at h1
    obtain ⟨a, xs, A2, rfl, p1, q1, _⟩ := h1
    refine ⟨a, xs, rfl, .inl (SqL.of p1), ?_⟩
    rw [rol_len q1]
    exact hQ _ _ .int
  · cases he
    refine ⟨_, call_len_seq, fun F H vs A h Q hQ => ?_⟩
    obtain ⟨v, A1, rfl, h1⟩ := one h
    simp only [RO] at h1
    obtain ⟨a, xs, rfl, p1, q1⟩ := h1
    refine ⟨a, xs, rfl, .inr p1, ?_⟩
    rw [rol_len q1]
    exact hQ _ _ .int
  · cases he
    refine ⟨_, call_len_seq, fun F H vs A h Q hQ => ?_⟩
    obtain ⟨v, A1, rfl, h1⟩ := one h
    simp only [RO] at h1
    obtain ⟨a, rfl, p1, _⟩ := h1
    refine ⟨a, _, rfl, .inl p1.seq, ?_⟩
    rw [List.length_map]
    exact hQ _ _ .int
  · cases he
    refine ⟨_, call_len_seq, fun F H vs A h Q hQ => ?_⟩
    obtain ⟨v, A1, rfl, h1⟩ := one h
    simp only [RO, Rp] at h1
    obtain ⟨⟨a, xs, rfl, p1, _, q1⟩, _⟩ := h1
    refine ⟨a, xs, rfl, .inl (SqL.of p1), ?_⟩
    rw [rpl_len q1]
    exact hQ _ _ .int
  · cases he
    refine ⟨_, call_len_seq, fun F H vs A h Q hQ => ?_⟩
    obtain ⟨v, A1, rfl, h1⟩ := one h
    simp only [RO, Rp] at h1
    obtain ⟨⟨a, xs, rfl, p1, q1⟩, _⟩ := h1
    refine ⟨a, xs, rfl, .inr p1, ?_⟩
    rw [rpl_len q1]
    exact hQ _ _ .int
  · split at he
    · rename_i hk
      cases he
      refine ⟨_, call_len_str, fun F H vs A h Q hQ => ?_⟩
      obtain ⟨v, A1, rfl, h1⟩ := one h
      simp only [RO, Rp] at h1
      obtain ⟨rfl, _⟩ := h1
      exact ⟨_, rfl, hk, hQ _ _ .int⟩
    · cases he
  · split at he
    · rename_i d e
      split at he
      · rename_i hk
        cases he
        refine ⟨_, cr_repr hg hu, fun F H vs A h Q hQ => ?_⟩
        obtain ⟨v, A1, rfl, h1⟩ := one h
        exact ⟨v, d, rfl, RO.dp _ _ _ _ h1 e, hk, hQ _ _ .str⟩
      · cases he
    · cases he
  · cases he
    refine ⟨_, cr_sum hc, fun F H vs A h Q hQ => ?_⟩
    obtain ⟨v, A1, rfl, h1⟩ := one h
    simp only [RO] at h1
    obtain ⟨a, rfl, p1, _⟩ := h1
    exact ⟨a, _, rfl, p1.seq, hQ _ _ .int⟩
  · split at he
    · split at he
      · rename_i d e
        obtain ⟨R, h1, h2⟩ := biD_call hc hu _ _ _ he rfl
        refine ⟨R, h1, fun F H vs A h Q hQ => ?_⟩
        obtain ⟨v, A1, rfl, h3⟩ := one h
        refine h2 F H [v] rfl (fun i d' v' e1 e2 => ?_) Q hQ
        match i, e1, e2 with
        | 0, e1, e2 =>
          simp at e1 e2
          subst e1 e2
          exact h3.shv e
      · cases he
    · split at he
      · rename_i d d' e e'
        obtain ⟨R, h1, h2⟩ := biD_call hc hu _ _ _ he rfl
        refine ⟨R, h1, fun F H vs A h Q hQ => ?_⟩
        simp only [ROL] at h
        obtain ⟨x, ys, A1, A2, rfl, g1, ⟨y, zs, A3, A4, rfl, g2, ⟨rfl, _⟩, _⟩, _⟩ := h
        refine h2 F H [x, y] rfl (fun i d1 v' e1 e2 => ?_) Q hQ
        match i, e1, e2 with
        | 0, e1, e2 =>
          simp at e1 e2
          subst e1 e2
          exact g1.shv e
        | 1, e1, e2 =>
          simp at e1 e2
          subst e1 e2
          exact g2.shv e'
      · cases he
    · cases he
end
end Mi

end
section
set_option maxHeartbeats 1000000
/-! Mi11: names: read, frozen, stored. -/
namespace Mi
open PySem L2

theorem ge_eq {r : En} {i : Nat} {o : O} (h : ge r i = some o) : r[i]? = some (some o) := by
  unfold ge at h
  split at h
  · rename_i o' e
    cases h
    exact e
  · cases h
theorem ge_lt {r : En} {i : Nat} {o : O} (h : ge r i = some o) : i < r.length := (List.getElem?_eq_some_iff.mp (ge_eq h)).1
theorem set_self {σ : St} {i : Nat} {v : V} (h : σ[i]? = some (some v)) : σ.set i (some v) = σ := by
  obtain ⟨hi, e⟩ := List.getElem?_eq_some_iff.mp h
  rw [← e]
  exact List.set_getElem_self hi
section
variable {K : PySem.W.Frag} {L : Nat → Addr → Prop} {F F1 F2 : Fz} {H H1 H2 : Hp} {r r1 r2 : En} {σ : St} {B B1 B2 : List Addr} {i : Nat} {o : O}
theorem Stt.ge (s : Stt K L F H r σ B) (e : ge r i = some o) : ∃ v A, σ[i]? = some (some v) ∧ RO K L F H o v A ∧ ∀ a ∈ A, a ∈ B := by
  obtain ⟨B1, A, B2, rfl, g, _, _⟩ := EnvR.slot r σ B i s.env (ge_lt e)
  obtain ⟨v, h1, h2⟩ := g o (ge_eq e)
  exact ⟨v, A, h1, h2, fun a ha => by simp [ha]⟩
theorem nodup_mid {A B1 B2 : List Addr} (h : (B1 ++ A ++ B2).Nodup) : (B1 ++ B2).Nodup ∧ ∀ a ∈ A, a ∉ B1 ++ B2 := by
  rw [List.append_assoc, List.nodup_append] at h
  obtain ⟨h1, h2, h3⟩ := h
  rw [List.nodup_append] at h2
  obtain ⟨h4, h5, h6⟩ := h2
  refine ⟨List.nodup_append.mpr ⟨h1, h5, fun a ha b hb => h3 a ha b (by simp [hb])⟩, fun a ha hb => ?_⟩
  rcases List.mem_append.mp hb with hb | hb
  · exact h3 a hb a (by simp [ha]) rfl
  · exact h6 a ha a hb rfl
theorem frz_ok {r' : En} (s : Stt K L F H r σ B) (e : frz r i = some (o, r')) : ∃ v F' B', σ[i]? = some (some v) ∧ ∀ q pl, Ps K L q pl F B H r' o σ v H F' B' [] := by
  have plain : ∀ {o : O}, Mi.ge r i = some o → o.isVal = true → ∃ v F' B', σ[i]? = some (some v) ∧ ∀ q pl, Ps K L q pl F B H r o σ v H F' B' [] := by
    intro o e hv
    obtain ⟨v, A, h1, h2, h3⟩ := s.ge e
    have := h2.isVal hv
    subst this
    exact ⟨v, F, B, h1, fun q pl => ⟨Tr.refl, s, h2, fun _ => ⟨by simpa using s.nd, by simp, by simp⟩, fun _ => by simp, fun _ => ⟨fun _ _ h => h, by simp⟩⟩⟩
  unfold frz at e
  split at e
  · rename_i k eg
    cases e
    exact plain eg rfl
  · rename_i k eg
    cases e
    exact plain eg rfl
  · rename_i o' h1 h2 eg
    rw [Option.map_eq_some_iff] at e
    obtain ⟨d, ed, e⟩ := e
    cases e
    obtain ⟨B1, A, B2, rfl, g, _, k⟩ := EnvR.slot r σ B i s.env (ge_lt eg)
    obtain ⟨v, g1, g2⟩ := g _ (ge_eq eg)
    have hd := RO.freeze _ _ _ _ g2 ed
    have hn := nodup_mid s.nd
    have kk := (k (fun a => F a ∨ a ∈ A) H (fun _ h => .inl h) (Kept.same fun _ _ h => h)).1 v (.val d) [] (by simp only [RO]; exact ⟨hd, trivial⟩)
    rw [set_self g1, List.append_nil] at kk
    have st : Stt K L (fun a => F a ∨ a ∈ A) H (r.set i (some (.val d))) σ (B1 ++ B2) := ⟨kk, hn.1, fun a ha hf => by
      rcases hf with hf | hf
      · exact s.df a (by rcases List.mem_append.mp ha with ha | ha <;> simp [ha]) hf
      · exact hn.2 a hf ha, fun a hf => by
      rcases hf with hf | hf
      · exact s.dm a hf
      · obtain ⟨xs, e⟩ := RO.own _ _ _ g2 a hf
        exact ⟨_, e⟩⟩
    refine ⟨v, _, _, g1, fun q pl => ⟨⟨fun _ h => .inl h, fun _ _ h _ => h, fun a hf => ?_, fun a ha => .inl ?_⟩, st, by simp only [RO]; exact ⟨hd, trivial⟩, fun _ => ⟨by simpa using hn.1, by simp, by simp⟩, fun _ => by simp, fun _ => ⟨fun _ _ h => h, by simp⟩⟩⟩
    · rcases hf with hf | hf
      · exact .inl hf
      · exact .inr (.inl (by simp [hf]))
    · rcases List.mem_append.mp ha with ha | ha <;> simp [ha]
  · cases e
/-- a slot takes a value with its own lists -/
theorem Stt.put {v : V} {A : List Addr} (s : Stt K L F H r σ B) (hi : i < r.length) (h : RO K L F H o v A) (f1 : (B ++ A).Nodup) (f2 : ∀ a ∈ A, ¬ F a) :
    ∃ B', Stt K L F H (r.set i (some o)) (σ.set i (some v)) B' ∧ ∀ a ∈ B', a ∈ B ∨ a ∈ A := by
  obtain ⟨B1, C, B2, rfl, g, _, k⟩ := EnvR.slot r σ B i s.env hi
  have kk := (k F H (fun _ h => h) (Kept.same fun _ _ h => h)).1 v o A h
  refine ⟨_, ⟨kk, ?_, fun a ha hf => ?_, s.dm⟩, fun a ha => ?_⟩
  · rw [List.nodup_append] at f1
    obtain ⟨n1, n2, n3⟩ := f1
    have hn := (nodup_mid n1).1
    rw [List.nodup_append] at hn
    rw [List.append_assoc, List.nodup_append]
    refine ⟨hn.1, List.nodup_append.mpr ⟨n2, hn.2.1, fun a ha b hb e => n3 b (by simp [hb]) a ha e.symm⟩, fun a ha b hb => ?_⟩
    rcases List.mem_append.mp hb with hb | hb
    · exact n3 a (by simp [ha]) b hb
    · exact hn.2.2 a ha b hb
  · rcases List.mem_append.mp ha with ha | ha
    · rcases List.mem_append.mp ha with ha | ha
      · exact s.df a (by simp [ha]) hf
      · exact f2 a ha hf
    · exact s.df a (by simp [ha]) hf
  · rcases List.mem_append.mp ha with ha | ha
    · rcases List.mem_append.mp ha with ha | ha
      · exact .inl (by simp [ha])
      · exact .inr ha
    · exact .inl (by simp [ha])
/-- a slot forgets -/
theorem Stt.forget (s : Stt K L F H r σ B) (hi : i < r.length) (x : Option V) : ∃ B', Stt K L F H (r.set i none) (σ.set i x) B' ∧ ∀ a ∈ B', a ∈ B := by
  obtain ⟨B1, C, B2, rfl, g, _, k⟩ := EnvR.slot r σ B i s.env hi
  have kk := (k F H (fun _ h => h) (Kept.same fun _ _ h => h)).2 x
  refine ⟨_, ⟨kk, (nodup_mid s.nd).1, fun a ha hf => s.df a ?_ hf, s.dm⟩, fun a ha => ?_⟩ <;>
  · rcases List.mem_append.mp ha with ha | ha <;> simp [ha]
theorem fzl_ok : ∀ {bs : List Bool} {os : List O} {vs : List V} {A : List Addr}, ROL K L F H os vs A → bs.length = os.length → A.Nodup →
    ∃ A', A'.Sublist A ∧ ∀ F' : Fz, (∀ a, F a → F' a) → (∀ a ∈ A, a ∉ A' → F' a) → ROL K L F' H (fzL bs os) vs A'
  | bs, [], vs, A, h, hl, nd => by
    simp only [ROL] at h
    obtain ⟨rfl, rfl⟩ := h
    cases bs with
    | nil => exact ⟨[], List.nil_sublist _, fun F' _ _ => by simp [fzL, ROL]⟩
    | cons _ _ => cases hl
  | [], _ :: _, _, _, _, hl, _ => by cases hl
  | b :: bs, o :: os, _, _, h, hl, nd => by
    simp only [ROL] at h
    obtain ⟨x, ys, A1, A2, rfl, h1, h2, rfl⟩ := h
    have nd' := List.nodup_append.mp nd
    obtain ⟨A3, s3, k3⟩ := fzl_ok (bs := bs) h2 (by simpa using hl) nd'.2.1
    have keep : ∃ A', A'.Sublist (A1 ++ A2) ∧ ∀ F' : Fz, (∀ a, F a → F' a) → (∀ a ∈ A1 ++ A2, a ∉ A' → F' a) → ROL K L F' H (o :: fzL bs os) (x :: ys) A' := by
      refine ⟨A1 ++ A3, List.Sublist.append (List.Sublist.refl A1) s3, fun F' f1 f2 => ?_⟩
      simp only [ROL]
      refine ⟨x, ys, A1, A3, rfl, RO.keep f1 _ _ _ (Kept.same fun _ _ h => h) h1, k3 F' f1 fun a ha hn => f2 a (by simp [ha]) fun hm => ?_, rfl⟩
      rcases List.mem_append.mp hm with hm | hm
      · exact nd'.2.2 a hm a ha rfl
      · exact hn hm
    cases b with
    | true => exact keep
    | false =>
      simp only [fzL, fz]
      cases e : o.toD with
      | none => exact keep
      | some d =>
        have hf := RO.freeze _ _ _ _ h1 e
        refine ⟨A3, s3.trans (List.sublist_append_right A1 A2), fun F' f1 f2 => ?_⟩
        simp only [ROL, RO]
        refine ⟨x, ys, [], A3, rfl, ⟨Rp.keep (fun b hb => ?_) (Kept.same fun _ _ h => h) _ _ hf, rfl⟩, k3 F' f1 fun a ha hn => f2 a (by simp [ha]) hn, rfl⟩
        rcases hb with hb | hb
        · exact f1 b hb
        · exact f2 b (by simp [hb]) fun hm => nd'.2.2 b hb b (s3.mem hm) rfl
theorem fzL_all : ∀ os : List O, fzL (List.replicate os.length false) os = os.map fz
  | [] => rfl
  | o :: os => by rw [List.length_cons, List.replicate_succ, fzL, fzL_all os, List.map_cons]
/-- parts of a display that is looked at -/
theorem fz_row {F0 : Fz} {B0 : List Addr} {H0 : Hp} {os : List O} {vs : List V} {A : List Addr} (t : Tr F0 B0 H0 F B H) (s : Stt K L F H r σ B) (ro : ROL K L F H os vs A) (f1 : (B ++ A).Nodup) (f2 : ∀ a ∈ A, ¬ F a) (f3 : ∀ a ∈ A, a ∈ B0 ∨ H0 a = none) :
    ∃ F' A', Tr F0 B0 H0 F' B H ∧ Stt K L F' H r σ B ∧ ROL K L F' H (os.map fz) vs A' ∧ (B ++ A').Nodup ∧ (∀ a ∈ A', ¬ F' a) ∧ (∀ a ∈ A', a ∈ A) ∧ ∀ a, F' a → F a ∨ a ∈ A := by
  have f1' := List.nodup_append.mp f1
  obtain ⟨A1, sA, kA⟩ := fzl_ok (bs := List.replicate os.length false) ro (by simp) f1'.2.1
  rw [fzL_all] at kA
  refine ⟨fun a => F a ∨ (a ∈ A ∧ a ∉ A1), A1, ⟨fun a h => .inl (t.e1 a h), t.e2, fun a h => ?_, t.nb⟩, ⟨EnvR.keep (fun _ h => .inl h) _ _ _ (Kept.same fun _ _ h => h) s.env, s.nd, fun a ha h => ?_, fun a h => ?_⟩, kA _ (fun _ h => .inl h) fun a h1 h2 => .inr ⟨h1, h2⟩, ?_, fun a ha h => ?_, fun a ha => sA.mem ha, fun a h => h.imp id fun q => q.1⟩
  · rcases h with h | h
    · exact t.e3 a h
    · rcases f3 a h.1 with q | q
      · exact .inr (.inl q)
      · exact .inr (.inr q)
  · rcases h with h | h
    · exact s.df a ha h
    · exact f1'.2.2 a ha a h.1 rfl
  · rcases h with h | h
    · exact s.dm a h
    · obtain ⟨xs, e⟩ := ROL.own _ _ _ ro a h.1
      exact ⟨_, e⟩
  · exact List.nodup_append.mpr ⟨f1'.1, sA.nodup f1'.2.1, fun a ha b hb e => f1'.2.2 a ha b (sA.mem hb) e⟩
  · rcases h with h | h
    · exact f2 a (sA.mem ha) h
    · exact h.2 ha
theorem fz_ps (m : Bool) {q : Bool} {F0 : Fz} {B0 : List Addr} {H0 : Hp} {os : List O} {v : V} {A : List Addr} (p : Ps K L q false F0 B0 H0 r (.lst os) σ v H F B A) : ∃ F' A', Ps K L q false F0 B0 H0 r (.lst (if m then os else os.map fz)) σ v H F' B A' := by
  cases m with
  | true => exact ⟨F, A, p⟩
  | false =>
    have ro := p.ro
    simp only [RO] at ro
    obtain ⟨a, xs, A1, rfl, e, ro, rfl⟩ := ro
    obtain ⟨f1, f2, f3⟩ := p.fr rfl
    have f1' := List.nodup_append.mp f1
    have ndA := List.nodup_cons.mp f1'.2.1
    obtain ⟨F2, A2, t2, s2, ro2, g1, g2, g3, g4⟩ := fz_row p.tr p.st ro (List.nodup_append.mpr ⟨f1'.1, ndA.2, fun x hx y hy => f1'.2.2 x hx y (by simp [hy])⟩) (fun x hx => f2 x (by simp [hx])) (fun x hx => f3 x (by simp [hx]))
    refine ⟨F2, a :: A2, t2, s2, ?_, fun _ => ⟨?_, fun x hx => ?_, fun x hx => ?_⟩, (fun hh => nomatch hh), fun hq => ⟨(p.qt hq).1, fun hh x hx => ?_⟩⟩
    · simp only [RO]
      exact ⟨a, xs, A2, rfl, e, ro2, rfl⟩
    · refine List.nodup_append.mpr ⟨f1'.1, List.nodup_cons.mpr ⟨fun h => ndA.1 (g3 a h), (List.nodup_append.mp g1).2.1⟩, fun x hx y hy => f1'.2.2 x hx y ?_⟩
      rcases List.mem_cons.mp hy with rfl | hy
      · simp
      · simp [g3 y hy]
    · rcases List.mem_cons.mp hx with rfl | hx
      · intro h
        rcases g4 _ h with h | h
        · exact f2 x (by simp) h
        · exact ndA.1 h
      · exact g2 x hx
    · rcases List.mem_cons.mp hx with rfl | hx
      · exact f3 x (by simp)
      · exact f3 x (by simp [g3 x hx])
    · rcases List.mem_cons.mp hx with rfl | hx
      · exact (p.qt hq).2 rfl x (by simp)
      · exact (p.qt hq).2 rfl x (by simp [g3 x hx])
end
end Mi

end
section
set_option maxHeartbeats 1000000
/-! Mi12: targets; a comprehension's own slots. -/
namespace Mi
open PySem L2

section
variable {K : PySem.W.Frag} {L : Nat → Addr → Prop} {F F1 F2 : Fz} {H H1 H2 : Hp} {r r1 r2 : En} {σ σ1 : St} {B B1 B2 : List Addr} {i : Nat} {o : O}
/-- σ' is σ but for some slots -/
structure But (vs : List Nat) (σ σ' : St) : Prop where
  len : σ'.length = σ.length
  out : ∀ j, j ∉ vs → σ'[j]? = σ[j]?
theorem But.refl {vs : List Nat} {σ : St} : But vs σ σ := ⟨rfl, fun _ _ => rfl⟩
theorem But.set {vs : List Nat} {σ : St} {i : Nat} {x : Option V} (h : i ∈ vs) : But vs σ (σ.set i x) := ⟨by simp, fun j hj => by
  have ne : i ≠ j := fun e => hj (by rw [← e]; exact h)
  rw [List.getElem?_set_ne ne]⟩
theorem But.trans {vs : List Nat} {σ σ' σ'' : St} (a : But vs σ σ') (b : But vs σ' σ'') : But vs σ σ'' := ⟨b.len.trans a.len, fun j hj => (b.out j hj).trans (a.out j hj)⟩
theorem But.mono {vs ws : List Nat} {σ σ' : St} (a : But vs σ σ') (h : ∀ i ∈ vs, i ∈ ws) : But ws σ σ' := ⟨a.len, fun j hj => a.out j fun q => hj (h j q)⟩
theorem wipe_at (σ : St) (j : Nat) : ∀ vs : List Nat, (wipe σ vs)[j]? = if j ∈ vs then (if j < σ.length then some none else none) else σ[j]?
  | [] => by simp [wipe]
  | v :: vs => by
    unfold wipe
    by_cases e : v = j
    · subst e
      rw [List.getElem?_set_self']
      simp only [List.mem_cons, true_or, if_true]
      have := wipe_at σ v vs
      by_cases hl : v < σ.length
      · simp [hl, wipe_length]
      · simp [hl, wipe_length]
    · rw [List.getElem?_set_ne e, wipe_at σ j vs]
      simp [show j ≠ v from fun q => e q.symm]
theorem wipe_but {vs : List Nat} {σ σ' : St} (h : But vs σ σ') : wipe σ' vs = wipe σ vs := by
  apply List.ext_getElem?
  intro j
  rw [wipe_at, wipe_at, h.len]
  split
  · rfl
  · rename_i hj
    exact h.out j hj
theorem but_wipe (vs : List Nat) (σ : St) : But vs σ (wipe σ vs) := ⟨wipe_length σ vs, fun j hj => by rw [wipe_at, if_neg hj]⟩
mutual
theorem bnd_ok : ∀ (g : G) (o : O) (r r' : En) (σ : St) (v : V) (A B : List Addr), bnd g o r = some r' → Stt K L F H r σ B → RO K L F H o v A → (B ++ A).Nodup → (∀ a ∈ A, ¬ F a) →
    ∃ σ' B', Stt K L F H r' σ' B' ∧ (∀ a ∈ B', a ∈ B ∨ a ∈ A) ∧ But g.slots σ σ' ∧ True
  | .nm i, o, r, r', σ, v, A, B, e, s, h, f1, f2 => by
    simp only [bnd] at e
    split at e
    · rename_i hi
      cases e
      obtain ⟨B', s', hb⟩ := s.put hi h f1 f2
      exact ⟨_, B', s', hb, But.set (by simp [G.slots]), trivial⟩
    · cases e
  | .tp gs, .val (.tuple ds), r, r', σ, v, A, B, e, s, h, f1, f2 => by
    simp only [bnd] at e
    simp only [RO, Rp] at h
    obtain ⟨⟨a, xs, rfl, h1, h2⟩, rfl⟩ := h
    obtain ⟨σ', B', g1, g2, g3⟩ := bnds_ok gs _ r r' σ xs [] B e s (rol_of h2) f1 f2
    exact ⟨σ', B', g1, g2, by simpa [G.slots] using g3, trivial⟩
  | .tp gs, .tup os, r, r', σ, v, A, B, e, s, h, f1, f2 => by
    simp only [bnd] at e
    simp only [RO] at h
    obtain ⟨a, xs, rfl, h1, h2⟩ := h
    obtain ⟨σ', B', g1, g2, g3⟩ := bnds_ok gs _ r r' σ xs A B e s h2 f1 f2
    exact ⟨σ', B', g1, g2, by simpa [G.slots] using g3, trivial⟩
  | .tp _, .val .none, _, _, _, _, _, _, e, _, _, _, _ => by simp [bnd] at e
  | .tp _, .val (.bool _), _, _, _, _, _, _, e, _, _, _, _ => by simp [bnd] at e
  | .tp _, .val (.int _), _, _, _, _, _, _, e, _, _, _, _ => by simp [bnd] at e
  | .tp _, .val (.str _), _, _, _, _, _, _, e, _, _, _, _ => by simp [bnd] at e
  | .tp _, .val (.list _), _, _, _, _, _, _, e, _, _, _, _ => by simp [bnd] at e
  | .tp _, .val (.dict _), _, _, _, _, _, _, e, _, _, _, _ => by simp [bnd] at e
  | .tp _, .lst _, _, _, _, _, _, _, e, _, _, _, _ => by simp [bnd] at e
  | .tp _, .fn _, _, _, _, _, _, _, e, _, _, _, _ => by simp [bnd] at e
  | .tp _, .scr _, _, _, _, _, _, _, e, _, _, _, _ => by simp [bnd] at e
  | .nil, _, _, _, _, _, _, _, e, _, _, _, _ => by simp [bnd] at e
  | .cons _ _, _, _, _, _, _, _, _, e, _, _, _, _ => by simp [bnd] at e
  | .sb _ _, _, _, _, _, _, _, _, e, _, _, _, _ => by simp [bnd] at e
theorem bnds_ok : ∀ (g : G) (os : List O) (r r' : En) (σ : St) (xs : List V) (A B : List Addr), bnds g os r = some r' → Stt K L F H r σ B → ROL K L F H os xs A → (B ++ A).Nodup → (∀ a ∈ A, ¬ F a) →
    ∃ σ' B', Stt K L F H r' σ' B' ∧ (∀ a ∈ B', a ∈ B ∨ a ∈ A) ∧ But g.slots σ σ'
  | .nil, [], r, r', σ, xs, A, B, e, s, h, f1, f2 => by
    simp only [bnds, Option.some.injEq] at e
    subst e
    exact ⟨σ, B, s, fun a ha => .inl ha, But.refl⟩
  | .cons g gs, o :: os, r, r', σ, xs, A, B, e, s, h, f1, f2 => by
    simp only [bnds] at e
    split at e
    · rename_i r1 e1
      simp only [ROL] at h
      obtain ⟨x, ys, A1, A2, rfl, h1, h2, rfl⟩ := h
      rw [← List.append_assoc] at f1
      have f1' := List.nodup_append.mp f1
      obtain ⟨σ1, B1, s1, hb1, u1, _⟩ := bnd_ok g o r r1 σ x A1 B e1 s h1 f1'.1 fun a ha => f2 a (by simp [ha])
      obtain ⟨σ2, B2, s2, hb2, u2⟩ := bnds_ok gs os r1 r' σ1 ys A2 B1 e s1 h2 (List.nodup_append.mpr ⟨s1.nd, f1'.2.1, fun a ha b hb => f1'.2.2 a (by
        rcases hb1 a ha with q | q <;> simp [q]) b hb⟩) fun a ha => f2 a (by simp [ha])
      refine ⟨σ2, B2, s2, fun a ha => ?_, (u1.mono fun i hi => by simp [G.slots, hi]).trans (u2.mono fun i hi => by simp [G.slots, hi])⟩
      rcases hb2 a ha with q | q
      · rcases hb1 a q with q | q
        · exact .inl q
        · exact .inr (by simp [q])
      · exact .inr (by simp [q])
    · cases e
  | .nil, _ :: _, _, _, _, _, _, _, e, _, _, _, _ => by simp [bnds] at e
  | .cons _ _, [], _, _, _, _, _, _, e, _, _, _, _ => by simp [bnds] at e
  | .nm _, _, _, _, _, _, _, _, e, _, _, _, _ => by simp [bnds] at e
  | .tp _, _, _, _, _, _, _, _, e, _, _, _, _ => by simp [bnds] at e
  | .sb _ _, _, _, _, _, _, _, _, e, _, _, _, _ => by simp [bnds] at e
end
theorem wip_ok (s : Stt K L F H r σ B) : ∀ vs : List Nat, ∃ B', Stt K L F H (wip r vs) (wipe σ vs) B' ∧ ∀ a ∈ B', a ∈ B
  | [] => ⟨B, s, fun _ h => h⟩
  | v :: vs => by
    obtain ⟨B1, s1, h1⟩ := wip_ok s vs
    unfold wip wipe
    by_cases hv : v < (wip r vs).length
    · obtain ⟨B2, s2, h2⟩ := s1.forget hv none
      exact ⟨B2, s2, fun a ha => h1 a (h2 a ha)⟩
    · have e1 : (wip r vs).set v none = wip r vs := List.set_eq_of_length_le (Nat.le_of_not_lt hv)
      have e2 : (wipe σ vs).set v none = wipe σ vs := List.set_eq_of_length_le (by rw [← EnvR.len _ _ _ s1.env]; exact Nat.le_of_not_lt hv)
      rw [e1, e2]
      exact ⟨B1, s1, h1⟩
/-- the slots come back -/
theorem back_ok (s0 : Stt K L F1 H1 r1 σ B1) (hF : ∀ a, F1 a → F a) (k : Kept [] F1 H1 H) : ∀ (vs : List Nat) (r : En) (σw : St) (B : List Addr), vs.all (plainAt r1) = true → Stt K L F H r σw B → But vs σ σw →
    ∃ B', Stt K L F H (back r1 vs r) σ B' ∧ ∀ a ∈ B', a ∈ B
  | [], r, σw, B, _, s, u => by
    have e : σw = σ := List.ext_getElem? fun j => u.out j (by simp)
    subst e
    exact ⟨B, s, fun _ h => h⟩
  | v :: vs, r, σw, B, hp, s, u => by
    simp only [List.all_cons, Bool.and_eq_true] at hp
    unfold back
    have l1 := EnvR.len _ _ _ s0.env
    have l2 := EnvR.len _ _ _ s.env
    have un : ∀ x : Option V, σ[v]? = some x → But vs σ (σw.set v x) := fun x hx => ⟨by simp [u.len], fun j hj => by
      by_cases e : v = j
      · subst e
        have hl : v < σw.length := by rw [u.len]; exact (List.getElem?_eq_some_iff.mp hx).1
        rw [List.getElem?_set_self hl, hx]
      · rw [List.getElem?_set_ne e]
        exact u.out j (by simp [hj, show j ≠ v from fun q => e q.symm])⟩
    by_cases hv : v < r.length
    · have hvσ : v < σ.length := by rw [← u.len, ← l2]; exact hv
      obtain ⟨x, hx⟩ : ∃ x, σ[v]? = some x := ⟨σ[v], List.getElem?_eq_getElem hvσ⟩
      cases hc : (r1[v]?).join with
      | none =>
        obtain ⟨B2, s2, h2⟩ := s.forget hv x
        obtain ⟨B3, s3, h3⟩ := back_ok s0 hF k vs _ _ B2 hp.2 s2 (un x hx)
        exact ⟨B3, s3, fun a ha => h2 a (h3 a ha)⟩
      | some o =>
        have hr : r1[v]? = some (some o) := by
          cases q : r1[v]? with
          | none => rw [q] at hc; cases hc
          | some y => rw [q] at hc; simp at hc; rw [hc]
        have hg : Mi.ge r1 v = some o := by unfold Mi.ge; rw [hr]
        obtain ⟨w, A, g1, g2, g3⟩ := s0.ge hg
        have hval : o.isVal = true := by
          have := hp.1
          unfold plainAt at this
          rw [hr] at this
          exact this
        have := g2.isVal hval
        subst this
        have ex : x = some w := by rw [hx] at g1; exact Option.some.inj g1
        subst ex
        obtain ⟨B2, s2, h2⟩ := s.put hv (RO.keep hF o w [] k g2) (by simpa using s.nd) (by simp)
        obtain ⟨B3, s3, h3⟩ := back_ok s0 hF k vs _ _ B2 hp.2 s2 (un _ hx)
        exact ⟨B3, s3, fun a ha => (h2 a (h3 a ha)).elim id (by simp)⟩
    · have e1 : r.set v (r1[v]?).join = r := List.set_eq_of_length_le (Nat.le_of_not_lt hv)
      rw [e1]
      refine back_ok s0 hF k vs r σw B hp.2 s ⟨u.len, fun j hj => ?_⟩
      by_cases e : j = v
      · subst e
        rw [List.getElem?_eq_none (by rw [← l2]; exact Nat.le_of_not_lt hv), List.getElem?_eq_none (by rw [← u.len, ← l2]; exact Nat.le_of_not_lt hv)]
      · exact u.out j (by simp [hj, e])
end
end Mi

end
section
set_option maxHeartbeats 1000000
/-! Mi13: targets, the text's. -/
namespace Mi
open PySem L2

section
variable {X : Cx} {L : Nat → Addr → Prop}
def tG (K : PySem.W.Frag) (L : Nat → Addr → Prop) (g : G) (o : O) (r : En) : TG := fun v σ H Q => ∃ F B A r', Stt K L F H r σ B ∧ RO K L F H o v A ∧ (B ++ A).Nodup ∧ (∀ a ∈ A, ¬ F a) ∧ bnd g o r = some r' ∧
  ∀ σ' B', Stt K L F H r' σ' B' → (∀ a ∈ B', a ∈ B ∨ a ∈ A) → But g.slots σ σ' → Q σ' H
def tGs (K : PySem.W.Frag) (L : Nat → Addr → Prop) (g : G) (os : List O) (r : En) : TGs := fun vs σ H Q => ∃ F B A r', Stt K L F H r σ B ∧ ROL K L F H os vs A ∧ (B ++ A).Nodup ∧ (∀ a ∈ A, ¬ F a) ∧ bnds g os r = some r' ∧
  ∀ σ' B', Stt K L F H r' σ' B' → (∀ a ∈ B', a ∈ B ∨ a ∈ A) → But g.slots σ σ' → Q σ' H
theorem pg_wk {e : Expr} {t t' : TG} (h : PG X e t') (hw : ∀ v σ H Q, t v σ H Q → t' v σ H Q) : PG X e t := ⟨fun pins s σ H v u Q I r q => h.run pins s σ H v u Q I r (hw v σ H Q q)⟩
theorem pgs_wk {e : List Expr} {t t' : TGs} (h : PGs X e t') (hw : ∀ v σ H Q, t v σ H Q → t' v σ H Q) : PGs X e t := ⟨fun pins s σ H v u Q I r q => h.run pins s σ H v u Q I r (hw v σ H Q q)⟩
theorem pg_bot {e : Expr} {t : TG} (hw : ∀ v σ H Q, ¬ t v σ H Q) : PG X e t := ⟨fun pins s σ H v u Q I r q => absurd q (hw v σ H Q)⟩
theorem pgs_bot {e : List Expr} {t : TGs} (hw : ∀ v σ H Q, ¬ t v σ H Q) : PGs X e t := ⟨fun pins s σ H v u Q I r q => absurd q (hw v σ H Q)⟩
theorem tG_bot {K : PySem.W.Frag} {g : G} {o : O} {r : En} (h : bnd g o r = none) (v : V) (σ : St) (H : Hp) (Q : St → Hp → Prop) : ¬ tG K L g o r v σ H Q := by
  rintro ⟨F, B, A, r', s, ho, f1, f2, eb, q⟩
  rw [h] at eb; cases eb
theorem tGs_bot {K : PySem.W.Frag} {g : G} {o : List O} {r : En} (h : bnds g o r = none) (v : List V) (σ : St) (H : Hp) (Q : St → Hp → Prop) : ¬ tGs K L g o r v σ H Q := by
  rintro ⟨F, B, A, r', s, ho, f1, f2, eb, q⟩
  rw [h] at eb; cases eb
theorem mtg_each {N : List Str} {sc : Scope} {g : G} {e : Expr} (h : mtg N sc g e = true) (es : List Expr) (env : Env) : (assignEach (e :: es) env).map (·.2) = assign e env :: (assignEach es env).map (·.2) ∧ (assignEach (e :: es) env).map (·.1) = false :: (assignEach es env).map (·.1) := by
  cases g <;> cases e <;> simp only [mtg, Bool.false_eq_true] at h <;> exact ⟨rfl, rfl⟩
theorem mtgs_plain {N : List Str} {sc : Scope} {env : Env} : ∀ {g : G} {es : List Expr}, mtgs N sc g es = true → (assignEach es env).findIdx? (·.1) = none ∧ (assignEach es env).length = es.length
  | .nil, [], _ => ⟨rfl, rfl⟩
  | .cons g gs, e :: es, h => by
    simp only [mtgs, Bool.and_eq_true] at h
    obtain ⟨h1, h2⟩ := mtgs_plain (env := env) h.2
    obtain ⟨h3, h4⟩ := mtg_each h.1 es env
    cases q : assignEach (e :: es) env with
    | nil => rw [q] at h3; cases h3
    | cons p l =>
      rw [q] at h3 h4
      simp only [List.map_cons, List.cons.injEq] at h3 h4
      have el : l.map (·.1) = (assignEach es env).map (·.1) := h4.2
      have ll : l.length = (assignEach es env).length := by simpa using congrArg List.length el
      refine ⟨?_, by simp [ll, h2]⟩
      rw [List.findIdx?_eq_none_iff] at h1 ⊢
      intro x hx
      rcases List.mem_cons.mp hx with rfl | hx
      · simpa using h4.1
      · have : x.1 ∈ (assignEach es env).map (·.1) := by rw [← el]; exact List.mem_map_of_mem hx
        obtain ⟨y, hy, e⟩ := List.mem_map.mp this
        rw [← e]
        exact h1 y hy
  | .nil, _ :: _, h => by simp [mtgs] at h
  | .cons _ _, [], h => by simp [mtgs] at h
  | .nm _, _, h => by simp [mtgs] at h
  | .tp _, _, h => by simp [mtgs] at h
  | .sb _ _, _, h => by simp [mtgs] at h
theorem bnds_len : ∀ {g : G} {os : List O} {r r' : En}, bnds g os r = some r' → os.length = g.len
  | .nil, [], _, _, _ => rfl
  | .cons g gs, o :: os, r, r', h => by
    simp only [bnds] at h
    split at h
    · simp [G.len, bnds_len h]
    · cases h
  | .nil, _ :: _, _, _, h => by simp [bnds] at h
  | .cons _ _, [], _, _, h => by simp [bnds] at h
  | .nm _, _, _, _, h => by simp [bnds] at h
  | .tp _, _, _, _, h => by simp [bnds] at h
  | .sb _ _, _, _, _, h => by simp [bnds] at h
/-- what a target's name must be in this context -/
def FnL (X : Cx) (sc : Scope) : Prop := ∀ x, locB sc x = true → Loc X.env.scope x ∧ (X.fn x = true ∨ X.env.scope.names.lookup x = some .local)
mutual
theorem pg_ok (hc : X.calm = true) (hN : X.N.Nodup) {sc : Scope} (hf : FnL X sc) : ∀ (g : G) (o : O) (r : En) (e : Expr), mtg X.N sc g e = true → PG X e (tG X.K L g o r)
  | .nm i, o, r, e, h => by
    cases e <;> simp only [mtg, Bool.false_eq_true] at h
    rename_i x pos
    rw [Bool.and_eq_true, Bool.and_eq_true] at h
    obtain ⟨⟨h1, h2⟩, _⟩ := h
    obtain ⟨g1, g2⟩ := hf x h2
    refine pg_wk (pg_name hN (of_decide_eq_true h1) g1 g2) fun v σ H Q q => ?_
    obtain ⟨F, B, A, r', s, ho, f1, f2, eb, q⟩ := q
    simp only [bnd] at eb
    split at eb
    · rename_i hi
      cases eb
      obtain ⟨B', s', hb⟩ := s.put hi ho f1 f2
      exact q _ B' s' hb (But.set (by simp [G.slots]))
    · cases eb
  | .tp gs, o, r, e, h => by
    cases e <;> simp only [mtg, Bool.false_eq_true] at h
    rename_i es k pos
    rw [Bool.and_eq_true] at h
    obtain ⟨p1, p2⟩ := mtgs_plain (env := X.env) h.1
    have hl : es.length = gs.len := of_decide_eq_true h.2
    have go : ∀ os, PG X (.Tuple es k pos) (gTup X.K gs.len (tGs X.K L gs os r)) := fun os => pg_tup hc (pgs_ok hc hN hf gs os r es h.1) (by rw [p2, hl]) p1
    have fin : ∀ (os : List O) (v : V) (σ : St) (H : Hp) (Q : St → Hp → Prop) (F : Fz) (B A : List Addr) (r' : En) (a : Addr) (xs : List V), v = .ref a → SqT X.K H a xs → Stt X.K L F H r σ B → ROL X.K L F H os xs A → (B ++ A).Nodup → (∀ a ∈ A, ¬ F a) → bnds gs os r = some r' →
        (∀ σ' B', Stt X.K L F H r' σ' B' → (∀ a ∈ B', a ∈ B ∨ a ∈ A) → But (G.tp gs).slots σ σ' → Q σ' H) → gTup X.K gs.len (tGs X.K L gs os r) v σ H Q := fun os v σ H Q F B A r' a xs ev h1 s h2 f1 f2 eb q =>
      ⟨a, xs, ev, h1, by rw [rol_len h2, bnds_len eb], F, B, A, r', s, h2, f1, f2, eb, fun σ' B' s' hb u => q σ' B' s' hb (by simpa [G.slots] using u)⟩
    cases o with
    | val d =>
      cases d with
      | tuple ds =>
        refine pg_wk (go (ds.map O.val)) fun v σ H Q q => ?_
        obtain ⟨F, B, A, r', s, ho, f1, f2, eb, q⟩ := q
        simp only [bnd] at eb
        simp only [RO, Rp] at ho
        obtain ⟨⟨a, xs, e1, h1, h2⟩, rfl⟩ := ho
        exact fin _ v σ H Q F B [] r' a xs e1 h1 s (rol_of h2) f1 f2 eb q
      | _ => exact pg_bot (tG_bot (by simp [bnd]))
    | tup os =>
      refine pg_wk (go os) fun v σ H Q q => ?_
      obtain ⟨F, B, A, r', s, ho, f1, f2, eb, q⟩ := q
      simp only [bnd] at eb
      simp only [RO] at ho
      obtain ⟨a, xs, e1, h1, h2⟩ := ho
      exact fin _ v σ H Q F B A r' a xs e1 h1 s h2 f1 f2 eb q
    | _ => exact pg_bot (tG_bot (by simp [bnd]))
  | .nil, _, _, e, h => by cases e <;> simp [mtg] at h
  | .cons _ _, _, _, e, h => by cases e <;> simp [mtg] at h
  | .sb _ _, _, _, e, h => by cases e <;> simp [mtg] at h
theorem pgs_ok (hc : X.calm = true) (hN : X.N.Nodup) {sc : Scope} (hf : FnL X sc) : ∀ (g : G) (os : List O) (r : En) (es : List Expr), mtgs X.N sc g es = true → PGs X es (tGs X.K L g os r)
  | .nil, os, r, [], _ => by
    refine pgs_wk pgs_nil fun vs σ H Q q => ?_
    obtain ⟨F, B, A, r', s, ho, f1, f2, eb, q⟩ := q
    cases os with
    | nil =>
      simp only [bnds, Option.some.injEq] at eb
      subst eb
      simp only [ROL] at ho
      exact ⟨ho.1, q σ B s (fun a ha => .inl ha) But.refl⟩
    | cons _ _ => simp [bnds] at eb
  | .cons g gs, os, r, e :: es, h => by
    simp only [mtgs, Bool.and_eq_true] at h
    cases os with
    | nil => exact pgs_bot (tGs_bot (by simp [bnds]))
    | cons o os =>
      cases e1 : bnd g o r with
      | none => exact pgs_bot (tGs_bot (by simp [bnds, e1]))
      | some r1 =>
        refine pgs_wk (pgs_cons (pg_ok hc hN hf g o r e h.1) (pgs_ok hc hN hf gs os r1 es h.2) (mtg_each h.1 es X.env).1) fun vs σ H Q q => ?_
        obtain ⟨F, B, A, r', s, ho, f1, f2, eb, q⟩ := q
        simp only [bnds, e1] at eb
        simp only [ROL] at ho
        obtain ⟨x, ys, A1, A2, rfl, h1, h2, rfl⟩ := ho
        rw [← List.append_assoc] at f1
        have f1' := List.nodup_append.mp f1
        refine ⟨x, ys, rfl, F, B, A1, r1, s, h1, f1'.1, fun a ha => f2 a (by simp [ha]), e1, fun σ1 B1 s1 hb1 u1 => ?_⟩
        refine ⟨F, B1, A2, r', s1, h2, List.nodup_append.mpr ⟨s1.nd, f1'.2.1, fun a ha b hb => f1'.2.2 a (by
          rcases hb1 a ha with q | q <;> simp [q]) b hb⟩, fun a ha => f2 a (by simp [ha]), eb, fun σ2 B2 s2 hb2 u2 => ?_⟩
        refine q σ2 B2 s2 (fun a ha => ?_) ((u1.mono fun i hi => by simp [G.slots, hi]).trans (u2.mono fun i hi => by simp [G.slots, hi]))
        rcases hb2 a ha with q | q
        · rcases hb1 a q with q | q
          · exact .inl q
          · exact .inr (by simp [q])
        · exact .inr (by simp [q])
  | .nil, _, _, _ :: _, h => by simp [mtgs] at h
  | .cons _ _, _, _, [], h => by simp [mtgs] at h
  | .nm _, _, _, _, h => by simp [mtgs] at h
  | .tp _, _, _, _, h => by simp [mtgs] at h
  | .sb _ _, _, _, _, h => by simp [mtgs] at h
end
end
end Mi

end
section
set_option maxHeartbeats 2000000
/-! Mi14: enumerate and zip over lists and tuples in any mix. -/
namespace Mi
open PySem L2

inductive Sq where | l | t
def SqH : Sq → PySem.W.Frag → Hp → Addr → List V → Prop
  | .l => SqL
  | .t => SqT
def ItA : Sq → Heap → Addr → Addr → Nat → Prop
  | .l, h, it, a, i => h.IsListIter it a i
  | .t, h, it, a, i => h.IsTupleIter it a i
def SrcA : Sq → Heap → Addr → Array Value → Prop
  | .l, h, a, its => h.IsList a its
  | .t, h, a, its => h.IsTuple a its
def itObj : Sq → Addr → Obj
  | .l, a => { cls := .type "list_iterator", data := .fields #[.ref a, .int 0 0] }
  | .t, a => { cls := .type "tuple_iterator", data := .fields #[.ref a, .int 0 0] }
section
variable {X : Cx} {pins : List (Addr × Obj)} {σ : St} {H : Hp} {s : Shared} {k : Sq} {a : Addr} {xs ys : List V}
theorem sq_src (I : Inv X pins σ H s) (h : SqH k X.K H a xs) : ∃ its : List Value, Vals xs its ∧ SrcA k s.heap a its.toArray ∧ a < s.heap.objs.size := by
  cases k with
  | l =>
    obtain ⟨its, rv, p, _⟩ := I.list h
    exact ⟨its, rv, p.isList, p.lt⟩
  | t =>
    obtain ⟨its, rv, p, _⟩ := I.tuple h
    exact ⟨its, rv, p, p.lt⟩
theorem sq_inj (I : Inv X pins σ H s) (h : SqH k X.K H a xs) (h' : SqH k X.K H a ys) : xs = ys := by
  cases k with
  | l => exact I.list_inj h h'
  | t => exact I.tuple_inj h h'
end
theorem sq_draws {prog : Program} {w : World} {A : Around} (hh : A.handled = none) (k : Sq) (it a : Addr) (hne : a ≠ it) (items : Array Value) :
    Draws prog w A it [it, a] items.size (fun i v => items[i]? = some v) (fun i h => ItA k h it a i ∧ SrcA k h a items) := by
  cases k with
  | l => exact Draws.list hh it a hne items
  | t => exact Draws.tuple hh it a hne items
theorem sq_begins (k : Sq) (a : Addr) (items : Array Value) : Begins (.ref a) (itObj k a) (fun h => SrcA k h a items) := by
  cases k with
  | l => exact begins_list a items
  | t => exact begins_tuple a items
theorem itA_at {k : Sq} {h h' : Heap} {it a : Addr} {i : Nat} (x : ItA k h it a i) (e : ∀ o, h.get? it = some o → h'.get? it = some o) : ItA k h' it a i := by
  cases k with
  | l => exact Heap.IsListIter.at x e
  | t => exact Heap.IsTupleIter.at x e
theorem itA_obj {k : Sq} {h : Heap} {it a : Addr} {i : Nat} (x : ItA k h it a i) : ∃ o, h.get? it = some o ∧ ∀ v, o.data ≠ .cell v := by
  cases k with
  | l =>
    obtain ⟨o, e, _, d⟩ := x
    exact ⟨o, e, fun v q => by rw [d] at q; cases q⟩
  | t =>
    obtain ⟨o, e, _, d⟩ := x
    exact ⟨o, e, fun v q => by rw [d] at q; cases q⟩
theorem itA_new {k : Sq} {h : Heap} {it a : Addr} (e : h.get? it = some (itObj k a)) : ItA k h it a 0 := by
  cases k with
  | l => exact ⟨_, e, rfl, rfl⟩
  | t => exact ⟨_, e, rfl, rfl⟩

/-- a new tuple among what next has turned -/
theorem Inv.gives {X : Cx} {pins : List (Addr × Obj)} {σ : St} {H : Hp} {s : Shared} {h' : Heap} {tk : Nat} {ch fp : List Addr} {T : Addr} {vals : List V} {us : List Value} (I : Inv X pins σ H s)
    (k : ∀ b o, b ∉ ch → s.heap.get? b = some o → h'.get? b = some o) (hch : ∀ b ∈ ch, b ∈ fp) (hf : ∀ b ∈ fp, FpOk X pins H b) (hlt : ∀ b ∈ fp, b < s.heap.objs.size) (hT : s.heap.objs.size ≤ T)
    (it : h'.IsTuple T us.toArray) (rv : Vals vals us) (hz : vals.length ≤ sizeLine) :
    Inv X pins σ (upd H T (.tup vals)) { s with heap := h', toks := tk } ∧ H T = none ∧ ∀ b ∈ fp, upd H T (.tup vals) b = none := by
  have hn : H T = none := I.hok.fresh hT
  refine ⟨I.turnedNew k (fun b hb => hf b (hch b hb)) hT ⟨hz, us, rv, it⟩, hn, fun b hb => ?_⟩
  rw [upd_ne (Nat.ne_of_lt (Nat.lt_of_lt_of_le (hlt b hb) hT))]
  exact (hf b hb).1

/-! ### enumerate -/
def Jen (K : PySem.W.Frag) (k : Sq) (a : Addr) : It :=
  ⟨fun i H => ∃ (xs : List V) (x : V), SqH k K H a xs ∧ xs[i]? = some x, fun i H v H' => ∃ T x, v = .ref T ∧ H T = none ∧ H' = upd H T (.tup [.int (i : Nat), x]) ∧ ∀ xs, SqH k K H a xs → xs[i]? = some x, fun i H => ∃ xs : List V, SqH k K H a xs ∧ xs.length = i⟩
theorem turn_en {P : Program} {w : World} {K : PySem.W.Frag} {elts : List Expr} {kk : Nat} {tpos : Pos} (k : Sq) (a e it : Addr) (hae : a ≠ e) (hai : a ≠ it) :
    Turn P w K (.Tuple elts kk tpos) (Jen K k a) [e, it] e (fun i h => (∃ old, IsEnum h e it ((0 : Int) + (i : Nat)) old) ∧ ItA k h it a i ∧ e ≠ it) where
  mem := by simp
  obj := fun i h st c hc => by
    obtain ⟨⟨old, he⟩, hi, _⟩ := st
    have e' : c = e ∨ c = it := by simpa using hc
    rcases e' with q | q
    · rw [q]; exact ⟨_, he, fun v q => nomatch q⟩
    · rw [q]; exact itA_obj hi
  keep := fun i h h' st kp => by
    obtain ⟨⟨old, he⟩, hi, hne⟩ := st
    exact ⟨⟨old, kp e (by simp) _ he⟩, itA_at hi fun o q => kp it (by simp) o q, hne⟩
  item := by
    intro X hP hw hK hc i pins s σ H E I hf st hg
    subst hP hw hK
    obtain ⟨⟨old, he⟩, hi, hne⟩ := st
    obtain ⟨xs, x, hq, hx⟩ := hg
    obtain ⟨its, rv, p, _⟩ := sq_src I hq
    obtain ⟨u, hu, ru⟩ := rv.get hx
    have hlt : i < its.toArray.size := by
      have := (List.getElem?_eq_some_iff.mp hu).1
      simpa using this
    obtain ⟨oi, hio, _⟩ := itA_obj hi
    refine (GoesN.enumFrom (prog := X.prog) (w := X.w) (A := X.A) (elts := elts) (x1 := kk) (pos := tpos) 0 (sq_draws (A := X.A.in1) (I.ok.hd hc) k it a hai its.toArray) e hne (by simp [hne, hae.symm]) (by simp)).goes i s _ _ hlt ⟨⟨old, he⟩, hi, p⟩ fun v h' tk y st' kp _ => ?_
    obtain ⟨T, t, y', rfl, hT, py, tt⟩ := y
    have ey : y' = u := by
      have : its.toArray[i]? = some u := by simpa using hu
      rw [this] at py; exact (Option.some.inj py).symm
    subst ey
    obtain ⟨I', hn, hfp⟩ := Inv.gives (tk := tk) (ch := [e, it]) (fp := [e, it]) (vals := [.int (i : Nat), x]) (us := [.int ((0 : Int) + (i : Nat)) t, y']) I kp (fun _ h => h) hf (fun b hb => by
      have e' : b = e ∨ b = it := by simpa using hb
      rcases e' with q | q
      · rw [q]; exact Heap.lt_size he
      · rw [q]; exact Heap.lt_size hio) hT tt (.cons ⟨t, by rw [Int.zero_add]⟩ (.cons ru .nil)) (by show 2 ≤ sizeLine; decide)
    refine ⟨.ref T, _, I', rfl, ⟨T, x, rfl, hn, rfl, fun zs hz => by rw [sq_inj I hz hq]; exact hx⟩, ⟨?_, st'.2.1, hne⟩, hfp⟩
    obtain ⟨old', q⟩ := st'.1
    exact ⟨old', q⟩
  done := by
    intro X hP hw hK hc i pins s σ H E I hf st hg
    subst hP hw hK
    obtain ⟨⟨old, he⟩, hi, hne⟩ := st
    obtain ⟨xs, hq, hx⟩ := hg
    obtain ⟨its, rv, p, _⟩ := sq_src I hq
    have hl := rv.length
    have en : its.toArray.size = i := by simp; omega
    have G := GoesN.enumFrom (prog := X.prog) (w := X.w) (A := X.A) (elts := elts) (x1 := kk) (pos := tpos) 0 (sq_draws (A := X.A.in1) (I.ok.hd hc) k it a hai its.toArray) e hne (by simp [hne, hae.symm]) (by simp)
    rw [en] at G
    exact G.stops s (fun s1 => Inv X pins σ H s1) _ ⟨⟨old, he⟩, hi, p⟩ fun h' tk kp _ => Inv.turnedL I kp hf
  self := fun A i s Q E st h => wpAny_pyIter_enum st.1.choose_spec h

def Jz2 (K : PySem.W.Frag) (k1 k2 : Sq) (a b : Addr) : It :=
  ⟨fun i H => ∃ (xs ys : List V) (x y : V), SqH k1 K H a xs ∧ SqH k2 K H b ys ∧ xs[i]? = some x ∧ ys[i]? = some y,
    fun i H v H' => ∃ T x y, v = .ref T ∧ H T = none ∧ H' = upd H T (.tup [x, y]) ∧ (∀ xs, SqH k1 K H a xs → xs[i]? = some x) ∧ ∀ ys, SqH k2 K H b ys → ys[i]? = some y,
    fun i H => ∃ xs ys : List V, SqH k1 K H a xs ∧ SqH k2 K H b ys ∧ min xs.length ys.length = i⟩
theorem turn_z2 {P : Program} {w : World} {K : PySem.W.Frag} {elts : List Expr} {kk : Nat} {tpos : Pos} (k1 k2 : Sq) (a b z TI TO i1 i2 : Addr) (S : ZipSep2 z TI TO i1 i2 [i1, a] [i2, b]) (na : a ≠ i1) (nb : b ≠ i2) :
    Turn P w K (.Tuple elts kk tpos) (Jz2 K k1 k2 a b) [z, TI, TO, i1, i2] z (fun i h => IsZip h z TI TO .none ∧ IsTupOf2 h TI (.ref i1) (.ref i2) ∧ (∃ x y, IsTupOf2 h TO x y) ∧ ItA k1 h i1 a i ∧ ItA k2 h i2 b i) where
  mem := by simp
  obj := fun i h st c hc => by
    obtain ⟨hz, hTI, ⟨x, y, hTO⟩, h1, h2⟩ := st
    have e' : c = z ∨ c = TI ∨ c = TO ∨ c = i1 ∨ c = i2 := by simpa using hc
    rcases e' with q | q | q | q | q
    · rw [q]; exact ⟨_, hz, fun v q => nomatch q⟩
    · rw [q]; exact ⟨_, hTI, fun v q => nomatch q⟩
    · rw [q]; exact ⟨_, hTO, fun v q => nomatch q⟩
    · rw [q]; exact itA_obj h1
    · rw [q]; exact itA_obj h2
  keep := fun i h h' st kp => by
    obtain ⟨hz, hTI, ⟨x, y, hTO⟩, h1, h2⟩ := st
    exact ⟨kp z (by simp) _ hz, kp TI (by simp) _ hTI, ⟨x, y, kp TO (by simp) _ hTO⟩, itA_at h1 fun o q => kp i1 (by simp) o q, itA_at h2 fun o q => kp i2 (by simp) o q⟩
  item := by
    intro X hP hw hK hc i pins s σ H E I hf st hg
    subst hP hw hK
    obtain ⟨hz, hTI, ⟨x0, y0, hTO⟩, h1, h2⟩ := st
    obtain ⟨xs, ys, x, y, hq1, hq2, hx, hy⟩ := hg
    obtain ⟨its, rv, p, _⟩ := sq_src I hq1
    obtain ⟨jts, rw', p', _⟩ := sq_src I hq2
    obtain ⟨u, hu, ru⟩ := rv.get hx
    obtain ⟨u2, hu2, ru2⟩ := rw'.get hy
    have hl1 : i < its.toArray.size := by simpa using (List.getElem?_eq_some_iff.mp hu).1
    have hl2 : i < jts.toArray.size := by simpa using (List.getElem?_eq_some_iff.mp hu2).1
    obtain ⟨o1, ho1, _⟩ := itA_obj h1
    obtain ⟨o2, ho2, _⟩ := itA_obj h2
    have hh := I.ok.hd hc
    refine (GoesN.zip2 (prog := X.prog) (w := X.w) (A := X.A) (elts := elts) (x1 := kk) (pos := tpos) S (sq_draws (A := X.A.in1) hh k1 i1 a na its.toArray) (sq_draws (A := X.A.in1) hh k2 i2 b nb jts.toArray)).goes i s _ _ (by omega) ⟨hz, hTI, ⟨x0, y0, hTO⟩, ⟨h1, p⟩, ⟨h2, p'⟩⟩ fun v h' tk yy st' kp _ => ?_
    obtain ⟨T, c, d, rfl, hT, pc, pd, tt⟩ := yy
    have ec : c = u := by
      have : its.toArray[i]? = some u := by simpa using hu
      rw [this] at pc; exact (Option.some.inj pc).symm
    have ed : d = u2 := by
      have : jts.toArray[i]? = some u2 := by simpa using hu2
      rw [this] at pd; exact (Option.some.inj pd).symm
    subst ec ed
    obtain ⟨I', hn, hfp⟩ := Inv.gives (tk := tk) (ch := [z, TO, i1, i2]) (fp := [z, TI, TO, i1, i2]) (vals := [x, y]) (us := [c, d]) I kp (fun b hb => by
      have e' : b = z ∨ b = TO ∨ b = i1 ∨ b = i2 := by simpa using hb
      rcases e' with q | q | q | q <;> simp [q]) hf (fun b hb => by
      have e' : b = z ∨ b = TI ∨ b = TO ∨ b = i1 ∨ b = i2 := by simpa using hb
      rcases e' with q | q | q | q | q
      · rw [q]; exact Heap.lt_size hz
      · rw [q]; exact Heap.lt_size hTI
      · rw [q]; exact Heap.lt_size hTO
      · rw [q]; exact Heap.lt_size ho1
      · rw [q]; exact Heap.lt_size ho2) hT tt (.cons ru (.cons ru2 .nil)) (by show 2 ≤ sizeLine; decide)
    exact ⟨.ref T, _, I', rfl, ⟨T, x, y, rfl, hn, rfl, fun zs hz => by rw [sq_inj I hz hq1]; exact hx, fun zs hz => by rw [sq_inj I hz hq2]; exact hy⟩, ⟨st'.1, st'.2.1, st'.2.2.1, st'.2.2.2.1.1, st'.2.2.2.2.1⟩, hfp⟩
  done := by
    intro X hP hw hK hc i pins s σ H E I hf st hg
    subst hP hw hK
    obtain ⟨hz, hTI, ⟨x0, y0, hTO⟩, h1, h2⟩ := st
    obtain ⟨xs, ys, hq1, hq2, hx⟩ := hg
    obtain ⟨its, rv, p, _⟩ := sq_src I hq1
    obtain ⟨jts, rw', p', _⟩ := sq_src I hq2
    have hl := rv.length
    have hl' := rw'.length
    have en : min its.toArray.size jts.toArray.size = i := by simp; omega
    have hh := I.ok.hd hc
    have G := GoesN.zip2 (prog := X.prog) (w := X.w) (A := X.A) (elts := elts) (x1 := kk) (pos := tpos) S (sq_draws (A := X.A.in1) hh k1 i1 a na its.toArray) (sq_draws (A := X.A.in1) hh k2 i2 b nb jts.toArray)
    rw [en] at G
    exact G.stops s (fun s1 => Inv X pins σ H s1) _ ⟨hz, hTI, ⟨x0, y0, hTO⟩, ⟨h1, p⟩, ⟨h2, p'⟩⟩ fun h' tk kp _ => Inv.turnedL I kp fun b hb => hf b (by
      have e' : b = z ∨ b = TO ∨ b = i1 ∨ b = i2 := by simpa using hb
      rcases e' with q | q | q | q <;> simp [q])
  self := fun A i s Q E st h => wpAny_pyIter_zip st.1 h
def Jz3 (K : PySem.W.Frag) (k1 k2 k3 : Sq) (a b c : Addr) : It :=
  ⟨fun i H => ∃ (xs ys zs : List V) (x y z : V), SqH k1 K H a xs ∧ SqH k2 K H b ys ∧ SqH k3 K H c zs ∧ xs[i]? = some x ∧ ys[i]? = some y ∧ zs[i]? = some z,
    fun i H v H' => ∃ T x y z, v = .ref T ∧ H T = none ∧ H' = upd H T (.tup [x, y, z]) ∧ (∀ xs, SqH k1 K H a xs → xs[i]? = some x) ∧ (∀ ys, SqH k2 K H b ys → ys[i]? = some y) ∧ ∀ zs, SqH k3 K H c zs → zs[i]? = some z,
    fun i H => ∃ xs ys zs : List V, SqH k1 K H a xs ∧ SqH k2 K H b ys ∧ SqH k3 K H c zs ∧ min (min xs.length ys.length) zs.length = i⟩
theorem turn_z3 {P : Program} {w : World} {K : PySem.W.Frag} {elts : List Expr} {kk : Nat} {tpos : Pos} (k1 k2 k3 : Sq) (a b g z TI TO i1 i2 i3 : Addr) (S : ZipSep3 z TI TO i1 i2 i3 [i1, a] [i2, b] [i3, g]) (na : a ≠ i1) (nb : b ≠ i2) (ng : g ≠ i3) :
    Turn P w K (.Tuple elts kk tpos) (Jz3 K k1 k2 k3 a b g) [z, TI, TO, i1, i2, i3] z (fun i h => IsZip h z TI TO .none ∧ IsTupOf3 h TI (.ref i1) (.ref i2) (.ref i3) ∧ (∃ x y w, IsTupOf3 h TO x y w) ∧ ItA k1 h i1 a i ∧ ItA k2 h i2 b i ∧ ItA k3 h i3 g i) where
  mem := by simp
  obj := fun i h st c hc => by
    obtain ⟨hz, hTI, ⟨x, y, w, hTO⟩, h1, h2, h3⟩ := st
    have e' : c = z ∨ c = TI ∨ c = TO ∨ c = i1 ∨ c = i2 ∨ c = i3 := by simpa using hc
    rcases e' with q | q | q | q | q | q
    · rw [q]; exact ⟨_, hz, fun v q => nomatch q⟩
    · rw [q]; exact ⟨_, hTI, fun v q => nomatch q⟩
    · rw [q]; exact ⟨_, hTO, fun v q => nomatch q⟩
    · rw [q]; exact itA_obj h1
    · rw [q]; exact itA_obj h2
    · rw [q]; exact itA_obj h3
  keep := fun i h h' st kp => by
    obtain ⟨hz, hTI, ⟨x, y, w, hTO⟩, h1, h2, h3⟩ := st
    exact ⟨kp z (by simp) _ hz, kp TI (by simp) _ hTI, ⟨x, y, w, kp TO (by simp) _ hTO⟩, itA_at h1 fun o q => kp i1 (by simp) o q, itA_at h2 fun o q => kp i2 (by simp) o q, itA_at h3 fun o q => kp i3 (by simp) o q⟩
  item := by
    intro X hP hw hK hc i pins s σ H E I hf st hg
    subst hP hw hK
    obtain ⟨hz, hTI, ⟨x0, y0, w0, hTO⟩, h1, h2, h3⟩ := st
    obtain ⟨xs, ys, zs, x, y, w, hq1, hq2, hq3, hx, hy, hw⟩ := hg
    obtain ⟨its, rv, p, _⟩ := sq_src I hq1
    obtain ⟨jts, rw', p', _⟩ := sq_src I hq2
    obtain ⟨kts, rz, p'', _⟩ := sq_src I hq3
    obtain ⟨u, hu, ru⟩ := rv.get hx
    obtain ⟨u2, hu2, ru2⟩ := rw'.get hy
    obtain ⟨u3, hu3, ru3⟩ := rz.get hw
    have hl1 : i < its.toArray.size := by simpa using (List.getElem?_eq_some_iff.mp hu).1
    have hl2 : i < jts.toArray.size := by simpa using (List.getElem?_eq_some_iff.mp hu2).1
    have hl3 : i < kts.toArray.size := by simpa using (List.getElem?_eq_some_iff.mp hu3).1
    obtain ⟨o1, ho1, _⟩ := itA_obj h1
    obtain ⟨o2, ho2, _⟩ := itA_obj h2
    obtain ⟨o3, ho3, _⟩ := itA_obj h3
    have hh := I.ok.hd hc
    refine (GoesN.zip3 (prog := X.prog) (w := X.w) (A := X.A) (elts := elts) (x1 := kk) (pos := tpos) S (sq_draws (A := X.A.in1) hh k1 i1 a na its.toArray) (sq_draws (A := X.A.in1) hh k2 i2 b nb jts.toArray) (sq_draws (A := X.A.in1) hh k3 i3 g ng kts.toArray)).goes i s _ _ (by omega) ⟨hz, hTI, ⟨x0, y0, w0, hTO⟩, ⟨h1, p⟩, ⟨h2, p'⟩, ⟨h3, p''⟩⟩ fun v h' tk yy st' kp _ => ?_
    obtain ⟨T, c, d, e, rfl, hT, pc, pd, pe, tt⟩ := yy
    have ec : c = u := by
      have : its.toArray[i]? = some u := by simpa using hu
      rw [this] at pc; exact (Option.some.inj pc).symm
    have ed : d = u2 := by
      have : jts.toArray[i]? = some u2 := by simpa using hu2
      rw [this] at pd; exact (Option.some.inj pd).symm
    have ee : e = u3 := by
      have : kts.toArray[i]? = some u3 := by simpa using hu3
      rw [this] at pe; exact (Option.some.inj pe).symm
    subst ec ed ee
    obtain ⟨I', hn, hfp⟩ := Inv.gives (tk := tk) (ch := [z, TO, i1, i2, i3]) (fp := [z, TI, TO, i1, i2, i3]) (vals := [x, y, w]) (us := [c, d, e]) I kp (fun b hb => by
      have e' : b = z ∨ b = TO ∨ b = i1 ∨ b = i2 ∨ b = i3 := by simpa using hb
      rcases e' with q | q | q | q | q <;> simp [q]) hf (fun b hb => by
      have e' : b = z ∨ b = TI ∨ b = TO ∨ b = i1 ∨ b = i2 ∨ b = i3 := by simpa using hb
      rcases e' with q | q | q | q | q | q
      · rw [q]; exact Heap.lt_size hz
      · rw [q]; exact Heap.lt_size hTI
      · rw [q]; exact Heap.lt_size hTO
      · rw [q]; exact Heap.lt_size ho1
      · rw [q]; exact Heap.lt_size ho2
      · rw [q]; exact Heap.lt_size ho3) hT tt (.cons ru (.cons ru2 (.cons ru3 .nil))) (by show 3 ≤ sizeLine; decide)
    exact ⟨.ref T, _, I', rfl, ⟨T, x, y, w, rfl, hn, rfl, fun zs hz => by rw [sq_inj I hz hq1]; exact hx, fun zs hz => by rw [sq_inj I hz hq2]; exact hy, fun zs hz => by rw [sq_inj I hz hq3]; exact hw⟩, ⟨st'.1, st'.2.1, st'.2.2.1, st'.2.2.2.1.1, st'.2.2.2.2.1.1, st'.2.2.2.2.2.1⟩, hfp⟩
  done := by
    intro X hP hw hK hc i pins s σ H E I hf st hg
    subst hP hw hK
    obtain ⟨hz, hTI, ⟨x0, y0, w0, hTO⟩, h1, h2, h3⟩ := st
    obtain ⟨xs, ys, zs, hq1, hq2, hq3, hx⟩ := hg
    obtain ⟨its, rv, p, _⟩ := sq_src I hq1
    obtain ⟨jts, rw', p', _⟩ := sq_src I hq2
    obtain ⟨kts, rz, p'', _⟩ := sq_src I hq3
    have hl := rv.length
    have hl' := rw'.length
    have hl'' := rz.length
    have en : min (min its.toArray.size jts.toArray.size) kts.toArray.size = i := by simp; omega
    have hh := I.ok.hd hc
    have G := GoesN.zip3 (prog := X.prog) (w := X.w) (A := X.A) (elts := elts) (x1 := kk) (pos := tpos) S (sq_draws (A := X.A.in1) hh k1 i1 a na its.toArray) (sq_draws (A := X.A.in1) hh k2 i2 b nb jts.toArray) (sq_draws (A := X.A.in1) hh k3 i3 g ng kts.toArray)
    rw [en] at G
    exact G.stops s (fun s1 => Inv X pins σ H s1) _ ⟨hz, hTI, ⟨x0, y0, w0, hTO⟩, ⟨h1, p⟩, ⟨h2, p'⟩, ⟨h3, p''⟩⟩ fun h' tk kp _ => Inv.turnedL I kp fun b hb => hf b (by
      have e' : b = z ∨ b = TO ∨ b = i1 ∨ b = i2 ∨ b = i3 := by simpa using hb
      rcases e' with q | q | q | q | q <;> simp [q])
  self := fun A i s Q E st h => wpAny_pyIter_zip st.1 h
end Mi

end
section
set_option maxHeartbeats 4000000
/-! Mi15: enumerate and zip begin. -/
namespace Mi
open PySem L2

abbrev enObj (a : Addr) : Obj := { cls := .type "enumerate", data := .fields #[.none, .bool false, .ref a, rawInt 0, .none, .none] }
theorem en_meets {v : Value} {o : Obj} {W : Heap → Prop} (B : Begins v o W) : Meets (Builtin.«enumerate.__new__» ⟨[.type "enumerate", v], []⟩) (fun _ R s =>
    W s.heap ∧ R (.ok (.ret (.ref (s.heap.push o).objs.size))) { s with heap := (s.heap.push o).push (enObj s.heap.objs.size) }) :=
  .of_wp fun prog w A R s h => by
    obtain ⟨hp, gg, dd, tk, os⟩ := s
    obtain ⟨w1, h⟩ := h
    have hsub := sub_enumerate
    have begin_ : ∀ {A' : Around} {E : Value → Shared → Prop} {Q : Value → Shared → Prop}, Q (.ref hp.objs.size) ⟨hp.push o, gg, dd, tk, os⟩ →
        wpAny (model prog w) A' (pyIter v) Q E ⟨hp, gg, dd, tk, os⟩ := fun q => B.iter prog w _ _ _ _ w1 q
    wp_walk using begin_
    refine wpAny_stack_any fun st => wpAny_pure ?_
    split
    · rename_i c _ _ _ _ _
      rcases hcc : (c == Value.type "enumerate") with _ | _ <;> (wp_walk using begin_; exact ⟨_, rfl, h⟩)
    · wp_walk using begin_
      exact ⟨_, rfl, h⟩
section
variable {prog : Program} {w : World} {A : Around} {E : Value → Shared → Prop} {s : Shared}
theorem en_begins {v : Value} {o : Obj} {W : Heap → Prop} {Q : Value → Shared → Prop} (B : Begins v o W) (h1 : W s.heap)
    (h : ∀ h', IsEnum h' (s.heap.objs.size + 1) s.heap.objs.size 0 .none → h'.get? s.heap.objs.size = some o → (∀ b o, s.heap.get? b = some o → h'.get? b = some o) → Q (.ref (s.heap.objs.size + 1)) { s with heap := h' }) :
    wpAny (model prog w) A (call (.type "enumerate") [v]) Q E s := by
  refine callType_new F.called_enumerate (by decide) (F.typeCall_enumerate_1 _) (F.newCall_enumerate_1 _) (fun ob => F.args_object_init_2 ob _) F.entry_enumerate_new (en_meets B) ⟨h1, ?_⟩
  have z1 : (s.heap.push o).objs.size = s.heap.objs.size + 1 := Heap.size_push ..
  have at1 := Heap.get?_push_size (s.heap.push o) (o := enObj s.heap.objs.size) rfl
  rw [z1] at at1
  show _ ∧ _
  rw [z1]
  exact ⟨⟨_, at1, rfl⟩, h _ at1 (Heap.get?_push_of_some _ (Heap.get?_push_size _ B.free)) fun b ob x => Heap.get?_push_of_some _ (Heap.get?_push_of_some _ x)⟩
end
section
variable {X : Cx}
def iEn (K : PySem.W.Frag) (ta : TA) : TI := fun σ H R => ta σ H fun vs H1 => ∃ k a xs, vs = [.ref a] ∧ SqH k K H1 a xs ∧ R (Jen K k a) H1
theorem pi_en {e : Expr} {ta : TA} {p pos tpos : Pos} {elts : List Expr} {kk : Nat} (hg : Gl X "enumerate") (hm : X.mg "enumerate" = none) (ha : PA X [e] ta) (hs : starEach [e] X.env = [(false, eval e X.env)]) :
    PI X (.Tuple elts kk tpos) (.Call (.Name "enumerate" p) [e] [] pos) (iEn X.K ta) := by
  refine ⟨fun pins s σ H R I h => ?_⟩
  refine PyProof.Rows.Call_ (ld_blt I hg hm PyProof.Rows.boot_enumerate (PyProof.Rows.callWith_type1 (thn (ha.run pos pins s σ H _ I h) fun us s1 ⟨vs, H1, I1, r1, q1⟩ => ?_) hs rfl))
  obtain ⟨k, a, xs, rfl, hq, q⟩ := q1
  obtain ⟨u, rfl, ru⟩ := Vals.one r1
  cases ru
  obtain ⟨its, rv, p1, lt1⟩ := sq_src I1 hq
  refine en_begins (sq_begins k a its.toArray) p1 fun h' he hit hk => wpAny_pyIter_enum he ?_
  have I2 : Inv X pins σ H1 { s1 with heap := h' } := I1.kept (t' := s1.toks) hk
  refine ⟨s1.heap.objs.size + 1, [s1.heap.objs.size + 1, s1.heap.objs.size], _, _, H1, rfl, I2, turn_en k a _ s1.heap.objs.size (Nat.ne_of_lt (Nat.lt_succ_of_lt lt1)) (Nat.ne_of_lt lt1), ⟨⟨.none, he⟩, itA_new hit, Nat.succ_ne_self _⟩, fun b hb => ?_, q⟩
  have hle : s1.heap.objs.size ≤ b := by
    rcases List.mem_cons.mp hb with z | z
    · rw [z]; exact Nat.le_succ _
    · rw [List.mem_singleton.mp z]; exact Nat.le_refl _
  exact I1.fpOk hle (I1.hok.fresh hle)
def iZ2 (K : PySem.W.Frag) (ta : TA) : TI := fun σ H R => ta σ H fun vs H1 => ∃ k1 k2 a b xs ys, vs = [.ref a, .ref b] ∧ SqH k1 K H1 a xs ∧ SqH k2 K H1 b ys ∧ R (Jz2 K k1 k2 a b) H1
theorem pi_z2 {e e2 : Expr} {ta : TA} {p pos tpos : Pos} {elts : List Expr} {kk : Nat} (hg : Gl X "zip") (hm : X.mg "zip" = none) (ha : PA X [e, e2] ta)
    (hs : starEach [e, e2] X.env = (false, eval e X.env) :: starEach [e2] X.env) (hpl : (backTo pos (starEach [e2] X.env)).any (·.1) = false) :
    PI X (.Tuple elts kk tpos) (.Call (.Name "zip" p) [e, e2] [] pos) (iZ2 X.K ta) := by
  refine ⟨fun pins s σ H R I h => ?_⟩
  refine PyProof.Rows.Call_ (ld_blt I hg hm PyProof.Rows.boot_zip (PyProof.Rows.callWith_type1 (thn (ha.run pos pins s σ H _ I h) fun us s1 ⟨vs, H1, I1, r1, q1⟩ => ?_) hs hpl))
  obtain ⟨k1, k2, a, b, xs, ys, rfl, hq1, hq2, q⟩ := q1
  obtain ⟨u, u2, rfl, ru, ru2⟩ := Vals.two r1
  cases ru
  cases ru2
  obtain ⟨its, rv, p1, lt1⟩ := sq_src I1 hq1
  obtain ⟨jts, rw', p2, lt2⟩ := sq_src I1 hq2
  refine zip_begins2 (sq_begins k1 a its.toArray) (sq_begins k2 b jts.toArray) p1 p2 fun h' hz hTI hTO h1 h2 _ hk => wpAny_pyIter_zip hz ?_
  have I2 : Inv X pins σ H1 { s1 with heap := h' } := I1.kept (t' := s1.toks) hk
  refine ⟨s1.heap.objs.size + 4, [s1.heap.objs.size + 4, s1.heap.objs.size + 2, s1.heap.objs.size + 3, s1.heap.objs.size, s1.heap.objs.size + 1], _, _, H1, rfl, I2,
    turn_z2 k1 k2 a b _ _ _ _ _ (zip_sep2 (fp1 := [a]) (fp2 := [b]) (fun c hc => by rw [List.mem_singleton.mp hc]; exact lt1) fun c hc => by rw [List.mem_singleton.mp hc]; exact lt2) (Nat.ne_of_lt lt1) (Nat.ne_of_lt (Nat.lt_succ_of_lt lt2)), ⟨hz, hTI, ⟨_, _, hTO⟩, itA_new h1, itA_new h2⟩, fun c hcm => ?_, q⟩
  have hle : s1.heap.objs.size ≤ c := by
    simp only [List.mem_cons, List.not_mem_nil, or_false] at hcm
    rcases hcm with z | z | z | z | z <;> rw [z] <;> first | exact Nat.le_add_right _ _ | exact Nat.le_refl _
  exact I1.fpOk hle (I1.hok.fresh hle)
def iZ3 (K : PySem.W.Frag) (ta : TA) : TI := fun σ H R => ta σ H fun vs H1 => ∃ k1 k2 k3 a b c xs ys zs, vs = [.ref a, .ref b, .ref c] ∧ SqH k1 K H1 a xs ∧ SqH k2 K H1 b ys ∧ SqH k3 K H1 c zs ∧ R (Jz3 K k1 k2 k3 a b c) H1
theorem pi_z3 {e e2 e3 : Expr} {ta : TA} {p pos tpos : Pos} {elts : List Expr} {kk : Nat} (hg : Gl X "zip") (hm : X.mg "zip" = none) (ha : PA X [e, e2, e3] ta)
    (hs : starEach [e, e2, e3] X.env = (false, eval e X.env) :: starEach [e2, e3] X.env) (hpl : (backTo pos (starEach [e2, e3] X.env)).any (·.1) = false) :
    PI X (.Tuple elts kk tpos) (.Call (.Name "zip" p) [e, e2, e3] [] pos) (iZ3 X.K ta) := by
  refine ⟨fun pins s σ H R I h => ?_⟩
  refine PyProof.Rows.Call_ (ld_blt I hg hm PyProof.Rows.boot_zip (PyProof.Rows.callWith_type1 (thn (ha.run pos pins s σ H _ I h) fun us s1 ⟨vs, H1, I1, r1, q1⟩ => ?_) hs hpl))
  obtain ⟨k1, k2, k3, a, b, c, xs, ys, zs, rfl, hq1, hq2, hq3, q⟩ := q1
  cases r1 with
  | cons ru rr =>
  obtain ⟨u2, u3, rfl, ru2, ru3⟩ := Vals.two rr
  cases ru
  cases ru2
  cases ru3
  obtain ⟨its, rv, p1, lt1⟩ := sq_src I1 hq1
  obtain ⟨jts, rw', p2, lt2⟩ := sq_src I1 hq2
  obtain ⟨kts, rz, p3, lt3⟩ := sq_src I1 hq3
  refine zip_begins3 (sq_begins k1 a its.toArray) (sq_begins k2 b jts.toArray) (sq_begins k3 c kts.toArray) p1 p2 p3 fun h' hz hTI hTO h1 h2 h3 _ hk => wpAny_pyIter_zip hz ?_
  have I2 : Inv X pins σ H1 { s1 with heap := h' } := I1.kept (t' := s1.toks) hk
  refine ⟨s1.heap.objs.size + 5, [s1.heap.objs.size + 5, s1.heap.objs.size + 3, s1.heap.objs.size + 4, s1.heap.objs.size, s1.heap.objs.size + 1, s1.heap.objs.size + 2], _, _, H1, rfl, I2,
    turn_z3 k1 k2 k3 a b c _ _ _ _ _ _ (zip_sep3 (fp1 := [a]) (fp2 := [b]) (fp3 := [c]) (fun d hd => by rw [List.mem_singleton.mp hd]; exact lt1) (fun d hd => by rw [List.mem_singleton.mp hd]; exact lt2) fun d hd => by rw [List.mem_singleton.mp hd]; exact lt3) (Nat.ne_of_lt lt1) (Nat.ne_of_lt (Nat.lt_succ_of_lt lt2)) (Nat.ne_of_lt (Nat.lt_of_lt_of_le lt3 (Nat.le_add_right _ 2))), ⟨hz, hTI, ⟨_, _, _, hTO⟩, itA_new h1, itA_new h2, itA_new h3⟩, fun c hcm => ?_, q⟩
  have hle : s1.heap.objs.size ≤ c := by
    simp only [List.mem_cons, List.not_mem_nil, or_false] at hcm
    rcases hcm with z | z | z | z | z | z <;> rw [z] <;> first | exact Nat.le_add_right _ _ | exact Nat.le_refl _
  exact I1.fpOk hle (I1.hok.fresh hle)
end
end Mi

end
section
set_option maxHeartbeats 2000000
/-! Mi16: what is walked gives data, one after another. -/
namespace Mi
open PySem L2

section
variable {K : PySem.W.Frag} {L : Nat → Addr → Prop} {F F1 F2 : Fz} {H H1 H2 : Hp}
def WkI (K : PySem.W.Frag) (F : Fz) (C : List Addr) (H : Hp) (J : It) (ds : List D) : Prop := ∃ (G : Hp → Prop) (Y : Nat → Hp → V → Hp → Prop), Walk J ds.length G Y ∧ (∀ H', Kept C F H H' → G H') ∧
  ∀ i H' x H'' d, Kept C F H H' → ds[i]? = some d → Y i H' x H'' → (∀ a u, H' a = some u → H'' a = some u) ∧ Rp K F H'' d x
def O.kind : O → Sq
  | .val (.tuple _) => .t
  | .tup _ => .t
  | _ => .l
theorem sq_of {x : O} {v : V} {A : List Addr} {ds : List D} (h : RO K L F H x v A) (e : x.its = some ds) : ∃ a xs, v = .ref a ∧ SqH x.kind K H a xs ∧ RpL K F H ds xs ∧ ∀ H', Kept A F H H' → SqH x.kind K H' a xs := by
  unfold O.its at e
  split at e
  · cases e
    simp only [RO, Rp] at h
    obtain ⟨⟨a, xs, rfl, h1, h2, h3⟩, rfl⟩ := h
    exact ⟨a, xs, rfl, SqL.of h1, h3, fun H' k => SqL.of (k.fz _ _ h2 h1)⟩
  · cases e
    simp only [RO, Rp] at h
    obtain ⟨⟨a, xs, rfl, h1, h3⟩, rfl⟩ := h
    exact ⟨a, xs, rfl, h1, h3, fun H' k => SqT.keep k.tp k.fr h1⟩
  · simp only [RO] at h
    obtain ⟨a, xs, A1, rfl, h1, h3, rfl⟩ := h
    exact ⟨a, xs, rfl, SqL.of h1, (rol_vals h3 e).1, fun H' k => SqL.of (k.ow _ _ (by simp) h1)⟩
  · simp only [RO] at h
    obtain ⟨a, xs, rfl, h1, h3⟩ := h
    exact ⟨a, xs, rfl, h1, (rol_vals h3 e).1, fun H' k => SqT.keep k.tp k.fr h1⟩
  · cases e
    simp only [RO] at h
    obtain ⟨a, rfl, h1, rfl⟩ := h
    exact ⟨a, _, rfl, h1.seq, rpl_ints _, fun H' k => (Scr.keep k.fr h1).seq⟩
  · cases e
theorem Walk.cast {J : It} {n m : Nat} {G : Hp → Prop} {Y : Nat → Hp → V → Hp → Prop} (w : Walk J n G Y) (e : n = m) : Walk J m G Y := by rw [← e]; exact w
theorem kept_rp {C : List Addr} {d : D} {x : V} (k : Kept C F H H1) (h : Rp K F H d x) : Rp K F H1 d x := Rp.keep (fun _ h => h) (k.sub (by simp)) d x h
theorem wk_list {A : List Addr} {a : Addr} {xs : List V} {ds : List D} (h2 : RpL K F H ds xs) (h3 : ∀ H', Kept A F H H' → SqL K H' a xs) : WkI K F A H (Itl K a) ds :=
  ⟨_, _, Walk.cast walk_list (rpl_len h2), h3, fun i H' x H'' d k e y => by
    obtain ⟨rfl, e1⟩ := y
    obtain ⟨x', e2, e3⟩ := rpl_get h2 e
    rw [e1] at e2
    cases e2
    exact ⟨fun _ _ h => h, kept_rp k e3⟩⟩
theorem wk_tup {A : List Addr} {a : Addr} {xs : List V} {ds : List D} (h2 : RpL K F H ds xs) (h3 : ∀ H', Kept A F H H' → SqT K H' a xs) : WkI K F A H (Itt K a) ds :=
  ⟨_, _, Walk.cast walk_tup (rpl_len h2), h3, fun i H' x H'' d k e y => by
    obtain ⟨rfl, e1⟩ := y
    obtain ⟨x', e2, e3⟩ := rpl_get h2 e
    rw [e1] at e2
    cases e2
    exact ⟨fun _ _ h => h, kept_rp k e3⟩⟩
theorem enumD_len : ∀ (ds : List D) (k : Nat), (enumD k ds).length = ds.length
  | [], _ => rfl
  | d :: ds, k => by simp [enumD, enumD_len ds]
theorem enumD_get : ∀ (ds : List D) (k i : Nat) (d : D), (enumD k ds)[i]? = some d → ∃ e, ds[i]? = some e ∧ d = .tuple [.int ((k + i : Nat) : Int), e]
  | [], _, _, _, h => by simp [enumD] at h
  | d :: ds, k, 0, e, h => by
    simp [enumD] at h
    exact ⟨d, rfl, h.symm⟩
  | d :: ds, k, i + 1, e, h => by
    simp only [enumD, List.getElem?_cons_succ] at h
    obtain ⟨f, e1, e2⟩ := enumD_get ds (k + 1) i e h
    exact ⟨f, by simpa using e1, by rw [e2, show k + 1 + i = k + (i + 1) by omega]⟩
theorem wk_enum {A : List Addr} {a : Addr} {xs : List V} {ds : List D} (k : Sq) (h2 : RpL K F H ds xs) (h3 : ∀ H', Kept A F H H' → SqH k K H' a xs) : WkI K F A H (Jen K k a) (enumD 0 ds) := by
  have hl := rpl_len h2
  refine ⟨fun H' => SqH k K H' a xs, fun i H v H' => (Jen K k a).yld i H v H' ∧ SqH k K H a xs, ⟨fun i H' hi q => ⟨xs, xs[i]'(by rw [hl]; simpa [enumD_len] using hi), q, by simp⟩, fun H' q => ⟨xs, q, by rw [hl, enumD_len]⟩, fun i H' x H'' hi q y => ⟨y, q⟩⟩, h3, fun i H' x H'' d kp e y => ?_⟩
  obtain ⟨⟨T, w, rfl, hT, rfl, hw⟩, q⟩ := y
  obtain ⟨e', e1, rfl⟩ := enumD_get ds 0 i d e
  obtain ⟨x', e2, e3⟩ := rpl_get h2 e1
  rw [hw xs q] at e2
  cases e2
  refine ⟨same_new hT, ?_⟩
  simp only [Rp]
  refine ⟨T, _, rfl, SqT.of upd_same, ?_⟩
  simp only [RpL, Rp]
  exact ⟨_, _, rfl, by rw [Nat.zero_add], _, _, rfl, Rp.keep (fun _ h => h) (Kept.new hT) _ _ (kept_rp kp e3), rfl⟩
theorem zip2_len : ∀ (ds es : List D), (zip2 ds es).length = min ds.length es.length
  | [], _ => by simp [zip2]
  | d :: ds, [] => by simp [zip2]
  | d :: ds, e :: es => by simp [zip2, zip2_len ds es]
theorem zip2_get : ∀ (ds es : List D) (i : Nat) (d : D), (zip2 ds es)[i]? = some d → ∃ e f, ds[i]? = some e ∧ es[i]? = some f ∧ d = .tuple [e, f]
  | [], _, _, _, h => by simp [zip2] at h
  | _ :: _, [], _, _, h => by simp [zip2] at h
  | d :: ds, e :: es, 0, x, h => by
    simp [zip2] at h
    exact ⟨d, e, rfl, rfl, h.symm⟩
  | d :: ds, e :: es, i + 1, x, h => by
    simp only [zip2, List.getElem?_cons_succ] at h
    obtain ⟨f, g, e1, e2, e3⟩ := zip2_get ds es i x h
    exact ⟨f, g, by simpa using e1, by simpa using e2, e3⟩
theorem Kept.left {A B : List Addr} (k : Kept (A ++ B) F H H1) : Kept A F H H1 := k.sub fun a ha => by simp [ha]
theorem Kept.right {A B : List Addr} (k : Kept (A ++ B) F H H1) : Kept B F H H1 := k.sub fun a ha => by simp [ha]
theorem wk_z2 {A B : List Addr} {a b : Addr} {xs ys : List V} {ds es : List D} (k1 k2 : Sq) (h2 : RpL K F H ds xs) (h3 : ∀ H', Kept A F H H' → SqH k1 K H' a xs) (g2 : RpL K F H es ys) (g3 : ∀ H', Kept B F H H' → SqH k2 K H' b ys) :
    WkI K F (A ++ B) H (Jz2 K k1 k2 a b) (zip2 ds es) := by
  have hl := rpl_len h2
  have gl := rpl_len g2
  refine ⟨fun H' => SqH k1 K H' a xs ∧ SqH k2 K H' b ys, fun i H v H' => (Jz2 K k1 k2 a b).yld i H v H' ∧ SqH k1 K H a xs ∧ SqH k2 K H b ys, ⟨fun i H' hi q => ?_, fun H' q => ⟨xs, ys, q.1, q.2, by rw [hl, gl, zip2_len]⟩, fun i H' x H'' hi q y => ⟨y, q⟩⟩, fun H' k => ⟨h3 H' k.left, g3 H' k.right⟩, fun i H' x H'' d kp e y => ?_⟩
  · rw [zip2_len] at hi
    exact ⟨xs, ys, xs[i]'(by omega), ys[i]'(by omega), q.1, q.2, by simp, by simp⟩
  · obtain ⟨⟨T, w, z, rfl, hT, rfl, hw, hz⟩, q1, q2⟩ := y
    obtain ⟨e', f', e1, f1, rfl⟩ := zip2_get ds es i d e
    obtain ⟨x', e2, e3⟩ := rpl_get h2 e1
    obtain ⟨y', f2, f3⟩ := rpl_get g2 f1
    rw [hw xs q1] at e2
    rw [hz ys q2] at f2
    cases e2
    cases f2
    refine ⟨same_new hT, ?_⟩
    simp only [Rp]
    refine ⟨T, _, rfl, SqT.of upd_same, ?_⟩
    simp only [RpL]
    exact ⟨_, _, rfl, Rp.keep (fun _ h => h) (Kept.new hT) _ _ (kept_rp kp e3), _, _, rfl, Rp.keep (fun _ h => h) (Kept.new hT) _ _ (kept_rp kp f3), rfl⟩
theorem zip3_len : ∀ (ds es fs : List D), (zip3 ds es fs).length = min (min ds.length es.length) fs.length
  | [], _, _ => by simp [zip3]
  | d :: ds, [], _ => by simp [zip3]
  | d :: ds, e :: es, [] => by simp [zip3]
  | d :: ds, e :: es, f :: fs => by simp [zip3, zip3_len ds es fs]
theorem zip3_get : ∀ (ds es fs : List D) (i : Nat) (d : D), (zip3 ds es fs)[i]? = some d → ∃ e f g, ds[i]? = some e ∧ es[i]? = some f ∧ fs[i]? = some g ∧ d = .tuple [e, f, g]
  | [], _, _, _, _, h => by simp [zip3] at h
  | _ :: _, [], _, _, _, h => by simp [zip3] at h
  | _ :: _, _ :: _, [], _, _, h => by simp [zip3] at h
  | d :: ds, e :: es, f :: fs, 0, x, h => by
    simp [zip3] at h
    exact ⟨d, e, f, rfl, rfl, rfl, h.symm⟩
  | d :: ds, e :: es, f :: fs, i + 1, x, h => by
    simp only [zip3, List.getElem?_cons_succ] at h
    obtain ⟨u, v, w, e1, e2, e3, e4⟩ := zip3_get ds es fs i x h
    exact ⟨u, v, w, by simpa using e1, by simpa using e2, by simpa using e3, e4⟩
theorem wk_z3 {A B C : List Addr} {a b c : Addr} {xs ys zs : List V} {ds es fs : List D} (k1 k2 k3 : Sq) (h2 : RpL K F H ds xs) (h3 : ∀ H', Kept A F H H' → SqH k1 K H' a xs) (g2 : RpL K F H es ys) (g3 : ∀ H', Kept B F H H' → SqH k2 K H' b ys)
    (f2 : RpL K F H fs zs) (f3 : ∀ H', Kept C F H H' → SqH k3 K H' c zs) : WkI K F (A ++ (B ++ C)) H (Jz3 K k1 k2 k3 a b c) (zip3 ds es fs) := by
  have hl := rpl_len h2
  have gl := rpl_len g2
  have fl := rpl_len f2
  refine ⟨fun H' => SqH k1 K H' a xs ∧ SqH k2 K H' b ys ∧ SqH k3 K H' c zs, fun i H v H' => (Jz3 K k1 k2 k3 a b c).yld i H v H' ∧ SqH k1 K H a xs ∧ SqH k2 K H b ys ∧ SqH k3 K H c zs, ⟨fun i H' hi q => ?_, fun H' q => ⟨xs, ys, zs, q.1, q.2.1, q.2.2, by rw [hl, gl, fl, zip3_len]⟩, fun i H' x H'' hi q y => ⟨y, q⟩⟩, fun H' k => ⟨h3 H' k.left, g3 H' k.right.left, f3 H' k.right.right⟩, fun i H' x H'' d kp e y => ?_⟩
  · rw [zip3_len] at hi
    exact ⟨xs, ys, zs, xs[i]'(by omega), ys[i]'(by omega), zs[i]'(by omega), q.1, q.2.1, q.2.2, by simp, by simp, by simp⟩
  · obtain ⟨⟨T, w, z, u, rfl, hT, rfl, hw, hz, hu⟩, q1, q2, q3⟩ := y
    obtain ⟨e', f', g', e1, f1, g1, rfl⟩ := zip3_get ds es fs i d e
    obtain ⟨x', e2, e3⟩ := rpl_get h2 e1
    obtain ⟨y', e4, e5⟩ := rpl_get g2 f1
    obtain ⟨z', e6, e7⟩ := rpl_get f2 g1
    rw [hw xs q1] at e2
    rw [hz ys q2] at e4
    rw [hu zs q3] at e6
    cases e2
    cases e4
    cases e6
    refine ⟨same_new hT, ?_⟩
    simp only [Rp]
    refine ⟨T, _, rfl, SqT.of upd_same, ?_⟩
    simp only [RpL]
    exact ⟨_, _, rfl, Rp.keep (fun _ h => h) (Kept.new hT) _ _ (kept_rp kp e3), _, _, rfl, Rp.keep (fun _ h => h) (Kept.new hT) _ _ (kept_rp kp e5), _, _, rfl, Rp.keep (fun _ h => h) (Kept.new hT) _ _ (kept_rp kp e7), rfl⟩
theorem wk_rng {C : List Addr} (lo : Int) (n : Nat) : WkI K F C H (Itr lo n) ((List.range n).map fun i => .int (lo + (i : Nat))) :=
  ⟨_, _, Walk.cast walk_range (by simp), fun _ _ => trivial, fun i H' x H'' d _ e y => by
    obtain ⟨rfl, rfl⟩ := y
    refine ⟨fun _ _ h => h, ?_⟩
    rw [List.getElem?_map, Option.map_eq_some_iff] at e
    obtain ⟨j, e1, rfl⟩ := e
    have : j = i := by
      have := (List.getElem?_eq_some_iff.mp e1).2
      simpa using this.symm
    subst this
    simp only [Rp]⟩
theorem wk_rngC {C : List Addr} (lo c : Int) (n : Nat) : WkI K F C H (Itc lo c n) ((List.range n).map fun i => .int (lo + (i : Nat) * c)) :=
  ⟨_, _, Walk.cast walk_rangeC (by simp), fun _ _ => trivial, fun i H' x H'' d _ e y => by
    obtain ⟨rfl, rfl⟩ := y
    refine ⟨fun _ _ h => h, ?_⟩
    rw [List.getElem?_map, Option.map_eq_some_iff] at e
    obtain ⟨j, e1, rfl⟩ := e
    have : j = i := by
      have := (List.getElem?_eq_some_iff.mp e1).2
      simpa using this.symm
    subst this
    simp only [Rp]⟩
end
end Mi

end
section
set_option maxHeartbeats 2000000
/-! Mi17: the context; calls of defs. -/
namespace Mi
open PySem L2

/-- a context in which the terms may run -/
structure Gd (nm fr : List Str) (gl : List (Str × D)) (kwt : Kwt) (cf : Cf) (n : Nat) (L : Nat → Addr → Prop) (X : Cx) (sc sc0 : Scope) : Prop where
  calm : X.calm = true
  nd : X.N.Nodup
  gu : X.A.guards = some []
  room : Room n X.A
  sc : X.env.scope = sc
  fnl : FnL X sc0
  fns : ∀ k x, nm[k]? = some x → ∃ f fd ps, X.mg x = some (.ref f) ∧ PySem.W.keepIn X.K (.ref f) = true ∧ L k f ∧ Binds X.K fd ps [] ∧ FnG X.prog X.w X.K X.mg X.base n f fd ps (spD X.K L cf k) ∧
    ∀ np kn pm, (k, np, kn, pm) ∈ kwt → ∀ (s : Shared) (us ws l : List Value), us.length = np → permL (us ++ ws) pm = some l → l.length = ps.length → ws.length = kn.length → BindsTo s fd ⟨us, kn.zip ws⟩ (ps.zip l)
  frs : ∀ x ∈ fr, X.mg x = none
  gls : ∀ (j : Nat) (p : Str × D), gl[j]? = some p → ∃ v u, X.mg p.1 = some u ∧ RelV v u ∧ ∀ F H, Rp X.K F H p.2 v

theorem gl_of {X : Cx} {sc : Scope} {x : Str} (e : X.env.scope = sc) (h : gloB sc x = true) : Gl X x := by
  unfold gloB at h
  unfold Gl Env.kindOf
  rw [e]
  split at h
  · assumption
  · cases h
theorem vis_of {X : Cx} {sc : Scope} {x : Str} (e : X.env.scope = sc) (h : visB sc x = true) : Vis X.env.scope x := by
  rw [e]
  unfold visB at h
  split at h
  · exact .inl (by assumption)
  · exact .inr (.inl (by assumption))
  · exact .inr (.inr (by assumption))
  · cases h
theorem name_ok {x : Str} (h : nameOk x = true) : (x == ("__debug__" : Str)) = false ∧ (x == ("__classdict__" : Str)) = false ∧ x ≠ ("__name__" : Str) := by
  unfold nameOk at h
  rw [Bool.and_eq_true, Bool.and_eq_true] at h
  exact ⟨by simpa using h.1.1, by simpa using h.1.2, of_decide_eq_true h.2⟩

section
variable {X : Cx} {f : Addr} {fd : FuncData} {ps : List Str} {sp : List V → Hp → VK → Prop} {k : Nat}
theorem run_g {pins : List (Addr × Obj)} {σ : St} {H : Hp} {s : Shared} {Q : VK} {us l : List Value} {kw : List (Str × Value)} {vs : List V} (F : FnG X.prog X.w X.K X.mg X.base k f fd ps sp) (hr : Room k X.A) (hg : X.A.guards = some [])
    (I : Inv X pins σ H s) (hb : BindsTo s fd ⟨us, kw⟩ (ps.zip l)) (r : Vals vs l) (h : sp vs H Q) : wpAny (model X.prog X.w) X.A (call (.ref f) us kw) (EP X pins σ Q) X.xe s := by
  refine wpAny_call (codeAny_mono (F.run X.A X.stack s H ⟨us, kw⟩ l vs Q hr hg I.env0 hb r h) fun res s' hq => ?_)
  match res, hq with
  | .error e, hq => exact False.elim hq
  | .ok (.ret u), hq => exact I.after hq
  | .ok .next, hq => exact False.elim hq
  | .ok .brk, hq => exact False.elim hq
  | .ok .cont, hq => exact False.elim hq
theorem starE {env : Env} {e : Expr} {es : List Expr} (h : plainE e = true) : starEach (e :: es) env = (false, eval e env) :: starEach es env := by
  cases e <;> first | rfl | cases h
theorem starAll {env : Env} {pos : Pos} : ∀ {es : List Expr}, es.all plainE = true → (backTo pos (starEach es env)).any (·.1) = false
  | [], _ => rfl
  | e :: es, h => by
    rw [List.all_cons, Bool.and_eq_true] at h
    have ih := starAll (env := env) (pos := pos) h.2
    rw [starE h.1]
    unfold backTo at ih ⊢
    rw [List.map_cons, List.any_cons, ih]
    rfl
variable {x : Str} {p pos : Pos} {e : Expr} {es : List Expr} {t tk : TA} {kws : List Keyword} {kn : List Str} {np : Nat} {pm : List Nat}
def tCl (sp : List V → Hp → VK → Prop) (t : TA) : TE := fun σ H Q => t σ H fun vs H1 => sp vs H1 Q
theorem pe_cl (F : FnG X.prog X.w X.K X.mg X.base k f fd ps sp) (hr : Room k X.A) (hg : X.A.guards = some []) (hgl : Gl X x) (hm : X.mg x = some (.ref f)) (hk : PySem.W.keepIn X.K (.ref f) = true) (hb : Binds X.K fd ps [])
    (ha : PA X es t) (hdb : (x == ("__debug__" : Str)) = false) (hp : es.all plainE = true) (hn : es = [] → ∀ σ H Q, t σ H Q → Q [] H) :
    PE X (.Call (.Name x p) es [] pos) (tCl sp t) := by
  refine ⟨fun pins s σ H Q I h => ?_⟩
  refine wpAny_Call_Name_kw (ld_glob I hgl hm ?_ hdb)
  have go : ∀ (us : List Value) (s1 : Shared) (vs : List V) (H1 : Hp), Inv X pins σ H1 s1 → Vals vs us → sp vs H1 Q → wpAny (model X.prog X.w) X.A (call (.ref f) us) (EP X pins σ Q) X.xe s1 := by
    intro us s1 vs H1 I1 r q
    have hl : (us ++ []).length = ps.length := by rw [List.append_nil, ← r.length]; exact F.len _ _ _ q
    have b := hb s1 us I1.kIn hl
    rw [List.append_nil] at b
    exact run_g F hr hg I1 b r q
  cases es with
  | nil => exact PySem.W.callWith_K0 I.kIn hk (go [] s [] H I .nil (hn rfl σ H _ h))
  | cons e0 er =>
    rw [List.all_cons, Bool.and_eq_true] at hp
    refine PySem.W.callWith_K (h₀ := X.base) I.ok.mod.kin hk (thn (ha.run pos pins s σ H _ I h) fun us s1 ⟨vs, H1, I1, r, q⟩ => ⟨I1.kIn, ?_⟩) (starE hp.1) (starAll hp.2)
    exact go us s1 vs H1 I1 r q
theorem kw_some {env : Env} : ∀ {kws : List Keyword} {kn : List Str}, kws.map (·.arg) = kn.map some → (backToKw pos (keywordEach kws env)).all (·.1.isSome) = true ∧ (backToKw pos (keywordEach kws env)).filterMap (·.1) = kn ∧ (backToKw pos (keywordEach kws env)).any (·.1.isNone) = false
  | [], [], _ => ⟨rfl, rfl, rfl⟩
  | [], _ :: _, h => by simp at h
  | _ :: _, [], h => by simp at h
  | ⟨a, e, q⟩ :: kws, y :: kn, h => by
    simp only [List.map_cons, List.cons.injEq] at h
    obtain ⟨rfl, h⟩ := h
    obtain ⟨i1, i2, i3⟩ := kw_some (env := env) h
    unfold backToKw at i1 i2 i3 ⊢
    refine ⟨?_, ?_, ?_⟩
    · simp only [keywordEach, List.map_cons, List.all_cons, i1]; rfl
    · simp only [keywordEach, List.map_cons, List.filterMap_cons, i2]
    · simp only [keywordEach, List.map_cons, List.any_cons, i3]; rfl
theorem permV {vs : List V} {us : List Value} (r : Vals vs us) : ∀ {pm : List Nat} {l : List V}, permL vs pm = some l → ∃ l', permL us pm = some l' ∧ Vals l l'
  | [], l, h => by simp only [permL, Option.some.injEq] at h; subst h; exact ⟨[], rfl, .nil⟩
  | i :: is, l, h => by
    simp only [permL] at h
    split at h
    · rename_i x l0 e1 e2
      simp only [Option.some.injEq] at h
      subst h
      obtain ⟨u, h1, h2⟩ := r.get e1
      obtain ⟨l', h3, h4⟩ := permV r e2
      exact ⟨u :: l', by simp only [permL, h1, h3], .cons h2 h4⟩
    · cases h
def tClK (sp : List V → Hp → VK → Prop) (pm : List Nat) (np nk : Nat) (t tk : TA) : TE := fun σ H Q => t σ H fun vs H1 => tk σ H1 fun zs H2 => ∃ l, vs.length = np ∧ zs.length = nk ∧ permL (vs ++ zs) pm = some l ∧ sp l H2 Q
theorem pe_clk (F : FnG X.prog X.w X.K X.mg X.base k f fd ps sp) (hr : Room k X.A) (hg : X.A.guards = some []) (hgl : Gl X x) (hm : X.mg x = some (.ref f)) (hk : PySem.W.keepIn X.K (.ref f) = true)
    (hb : ∀ (s : Shared) (us ws l : List Value), us.length = np → permL (us ++ ws) pm = some l → l.length = ps.length → ws.length = kn.length → BindsTo s fd ⟨us, kn.zip ws⟩ (ps.zip l))
    (ha : PA X es t) (hkw : PK X kws tk) (hkn : kws.map (·.arg) = kn.map some) (hdb : (x == ("__debug__" : Str)) = false) (hp : es.all plainE = true) (hn : es = [] → ∀ σ H Q, t σ H Q → Q [] H) :
    PE X (.Call (.Name x p) es kws pos) (tClK sp pm np kn.length t tk) := by
  refine ⟨fun pins s σ H Q I h => ?_⟩
  refine wpAny_Call_Name_kw (ld_glob I hgl hm ?_ hdb)
  obtain ⟨k1, k2, k3⟩ := kw_some (env := X.env) (pos := pos) hkn
  have go : ∀ (us ws : List Value) (s1 : Shared) (vs zs l : List V) (H1 : Hp), Inv X pins σ H1 s1 → Vals vs us → Vals zs ws → vs.length = np → zs.length = kn.length → permL (vs ++ zs) pm = some l → sp l H1 Q → wpAny (model X.prog X.w) X.A (call (.ref f) us (kn.zip ws)) (EP X pins σ Q) X.xe s1 := by
    intro us ws s1 vs zs l H1 I1 r rz e1 e2 e3 q
    obtain ⟨l', h3, h4⟩ := permV (r.append rz) e3
    refine run_g F hr hg I1 (hb s1 us ws l' ?_ h3 ?_ ?_) h4 q
    · rw [← r.length]; exact e1
    · rw [← h4.length]; exact F.len _ _ _ q
    · rw [← rz.length]; exact e2
  cases es with
  | nil =>
    have h := hn rfl σ H _ h
    refine PySem.W.callWith_KW0 (h₀ := X.base) I.ok.mod.kin hk k1 (thn (hkw.run pos pins s σ H _ I h) fun ws s2 ⟨zs, H2, I2, rz, l, e1, e2, e3, q2⟩ => ⟨I2.kIn, ?_⟩) (by rw [k3]; rfl)
    rw [k2]
    exact go [] ws s2 [] zs l H2 I2 .nil rz e1 e2 e3 q2
  | cons e0 er =>
    have hpa := hp
    rw [List.all_cons, Bool.and_eq_true] at hp
    refine PySem.W.callWith_KW (h₀ := X.base) I.ok.mod.kin hk k1 (thn (ha.run pos pins s σ H _ I h) fun us s1 ⟨vs, H1, I1, r, q⟩ => ?_) (by rw [k3, starAll hpa]; rfl) (starE hp.1)
    refine thn (hkw.run pos pins s1 σ H1 _ I1 q) fun ws s2 ⟨zs, H2, I2, rz, l, e1, e2, e3, q2⟩ => ⟨I2.kIn, ?_⟩
    rw [k2]
    exact go us ws s2 vs zs l H2 I2 r rz e1 e2 e3 q2
end
end Mi

end
section
set_option maxHeartbeats 2000000
/-! Mi18: expressions: the promise; still ones; operators. -/
namespace Mi
open PySem L2

structure Wd where
  nm : List Str
  fr : List Str
  gl : List (Str × D)
  kwt : Kwt
  cf : Cf
  n : Nat
  L : Nat → Addr → Prop
abbrev Wd.G (W : Wd) (X : Cx) (sc sc0 : Scope) : Prop := Gd W.nm W.fr W.gl W.kwt W.cf W.n W.L X sc sc0
abbrev Wd.ev (W : Wd) := Mi.ev W.gl W.cf
abbrev Wd.evs (W : Wd) := Mi.evs W.gl W.cf
abbrev Wd.mt (W : Wd) (N : List Str) := Mi.mt N W.nm W.fr W.gl W.kwt
abbrev Wd.mts (W : Wd) (N : List Str) := Mi.mts N W.nm W.fr W.gl W.kwt
abbrev Wd.mtk (W : Wd) (N : List Str) := Mi.mtk N W.nm W.fr W.gl W.kwt
/-- as an expression -/
def SE (W : Wd) (t : T) : Prop := ∀ (m : Bool) (r : En) (X : Cx) (sc sc0 : Scope) (e : Expr), W.G X sc sc0 → W.mt X.N sc t e = true → PE X e (tR X.K W.L t.qt (!m && t.isPl) r (W.ev m t r))
/-- as a test -/
def ST (W : Wd) (t : T) : Prop := t.tst = true → ∀ (r : En) (X : Cx) (sc sc0 : Scope) (e : Expr), W.G X sc sc0 → W.mt X.N sc t e = true → PT X e (tT X.K W.L t.qt r (W.ev false t r))
/-- as arguments -/
def SA (W : Wd) (t : T) : Prop := ∀ (m : Bool) (r : En) (X : Cx) (sc sc0 : Scope) (es : List Expr), W.G X sc sc0 → W.mts X.N sc t es = true → es.all plainE = true ∧ (es = [] → t = .nil) ∧ PA X es (tRs X.K W.L t.qt m (inos t) r (W.evs m t r))
/-- as keywords' values -/
def SK (W : Wd) (t : T) : Prop := ∀ (r : En) (X : Cx) (sc sc0 : Scope) (kn : List Str) (kws : List Keyword), W.G X sc sc0 → W.mtk X.N sc t kn kws = true → kws.map (·.arg) = kn.map some ∧ PK X kws (tRs X.K W.L t.qt true (inos t) r (W.evs true t r))
/-- each of a row -/
def SL (W : Wd) : T → Prop
  | .cons a s => SE W a ∧ SL W s
  | _ => True
structure Snd (W : Wd) (t : T) : Prop where
  e : SE W t
  c : ST W t
  a : SA W t
  k : SK W t
  l : SL W t

/-! ### still ones -/
def tS (K : PySem.W.Frag) (L : Nat → Addr → Prop) (r : En) (res : Option O) : TE := fun σ H Q => ∃ F B o, Stt K L F H r σ B ∧ res = some o ∧
  ∀ v H' A, (∀ a u, H a = some u → H' a = some u) → RO K L F H' o v A → (∀ a ∈ A, a ∈ B) → Q v H'
section
variable {W : Wd} {X : Cx} {sc sc0 : Scope}
theorem tS_mk {K : PySem.W.Frag} {L : Nat → Addr → Prop} {r : En} {o : O} {σ : St} {H : Hp} {Q : VK} (h : tS K L r (some o) σ H Q) : ∃ F B, Stt K L F H r σ B ∧
  ∀ v H' A, (∀ a u, H a = some u → H' a = some u) → RO K L F H' o v A → (∀ a ∈ A, a ∈ B) → Q v H' := by
  obtain ⟨F, B, o', s, e, q⟩ := h
  simp only [Option.some.injEq] at e
  subst e
  exact ⟨F, B, s, q⟩
theorem tS_none {K : PySem.W.Frag} {L : Nat → Addr → Prop} {r : En} {σ : St} {H : Hp} {Q : VK} : ¬ tS K L r none σ H Q := by
  rintro ⟨F, B, o, _, e, _⟩
  cases e
theorem bltE {x : Str} {p pos : Pos} {e : Expr} {es : List Expr} {t : TA} {b : Bi} {R : List V → Hp → VK → Prop} (hc : CallR X (biVal b) R) (hg : Gl X x) (hm : X.mg x = none) (hx : x = biName b) (ha : PA X (e :: es) t) (hp : (e :: es).all plainE = true) (hok : nameOk x = true) :
    PE X (.Call (.Name x p) (e :: es) [] pos) (fun σ H Q => t σ H fun vs H1 => R vs H1 Q) := by
  obtain ⟨n1, n2, n3⟩ := name_ok hok
  rw [List.all_cons, Bool.and_eq_true] at hp
  have hb : bootBuiltins x = some (biVal b) := by rw [hx]; exact boot_bi b
  cases b
  case int => exact pe_callTy hc hg hm hb ha n3 n1 (starE hp.1) (starAll hp.2)
  case str => exact pe_callTy hc hg hm hb ha n3 n1 (starE hp.1) (starAll hp.2)
  case list => exact pe_callTy hc hg hm hb ha n3 n1 (starE hp.1) (starAll hp.2)
  case tuple => exact pe_callTy hc hg hm hb ha n3 n1 (starE hp.1) (starAll hp.2)
  all_goals exact pe_callB hc hg hm hb ha n3 n1 (starE hp.1) (starAll hp.2)
theorem se_var (m : Bool) (i : Nat) (r : En) (e : Expr) (g : W.G X sc sc0) (h : W.mt X.N sc (.var i) e = true) : PE X e (tVar i) := by
  cases e <;> simp only [mt, Bool.false_eq_true] at h
  rename_i x pos
  rw [Bool.and_eq_true, Bool.and_eq_true] at h
  obtain ⟨⟨h1, h2⟩, h3⟩ := h
  obtain ⟨n1, n2, n3⟩ := name_ok h3
  exact pe_var (of_decide_eq_true h1) (vis_of g.sc h2) n1 n2
theorem se_con (d : D) (e : Expr) (h : W.mt X.N sc (.con d) e = true) : ∃ v, PE X e (tC v) ∧ ∀ F H, Rp X.K F H d v := by
  cases e <;> simp only [mt, Bool.false_eq_true] at h
  rename_i c k pos
  cases d <;> cases c <;> simp only [conB, Bool.false_eq_true, beq_iff_eq, decide_eq_true_eq] at h
  · exact ⟨_, pe_non, fun _ _ => rfl⟩
  · subst h; exact ⟨_, pe_bl, fun _ _ => rfl⟩
  · subst h; exact ⟨_, pe_int, fun _ _ => rfl⟩
  · subst h; exact ⟨_, pe_str, fun _ _ => rfl⟩
theorem se_glo (j : Nat) (e : Expr) (g : W.G X sc sc0) (h : W.mt X.N sc (.glo j) e = true) : ∃ v p, PE X e (tC v) ∧ W.gl[j]? = some p ∧ ∀ F H, Rp X.K F H p.2 v := by
  cases e <;> simp only [mt, Bool.false_eq_true] at h
  rename_i x pos
  rw [Bool.and_eq_true, Bool.and_eq_true] at h
  obtain ⟨⟨h1, h2⟩, h3⟩ := h
  obtain ⟨n1, n2, n3⟩ := name_ok h3
  have h1 := of_decide_eq_true h1
  cases ep : W.gl[j]? with
  | none => rw [ep] at h1; cases h1
  | some p =>
    rw [ep] at h1
    simp only [Option.map_some, Option.some.injEq] at h1
    obtain ⟨v, u, g1, g2, g3⟩ := g.gls j p ep
    exact ⟨v, p, pe_glob (gl_of g.sc h2) (by rw [← h1]; exact g1) g2 n1, rfl, g3⟩
theorem rd_refl {H : Hp} : ∀ a u, H a = some u → H a = some u := fun _ _ h => h
theorem RO.grow {K : PySem.W.Frag} {L : Nat → Addr → Prop} {F : Fz} {H H' : Hp} {o : O} {v : V} {A : List Addr} (h : RO K L F H o v A) (g : ∀ a u, H a = some u → H' a = some u) : RO K L F H' o v A := RO.keep (fun _ h => h) o v A (Kept.same g) h
theorem NewO.ro {K : PySem.W.Frag} {L : Nat → Addr → Prop} {F : Fz} {H H' : Hp} {res : O} {v : V} (n : NewO K F H res v H') (hv : res.isVal = true) : (∀ a u, H a = some u → H' a = some u) ∧ RO K L F H' res v [] := by
  rcases n with ⟨d, rfl, h, rfl⟩ | ⟨ds, vs, p, rfl, h, hp, rfl, rfl⟩ | ⟨ds, vs, p, rfl, h, hp, rfl, rfl⟩
  · exact ⟨rd_refl, by simp only [RO]; exact ⟨h, trivial⟩⟩
  · cases hv
  · refine ⟨same_new hp, ?_⟩
    simp only [RO, Rp]
    exact ⟨⟨p, vs, rfl, SqT.of upd_same, RpL.keep (fun _ h => h) (Kept.new hp) ds vs h⟩, trivial⟩
theorem RO.grows {K : PySem.W.Frag} {L : Nat → Addr → Prop} {F : Fz} {H H' : Hp} {o : O} {v : V} {A : List Addr} (h : RO K L F H o v A) (g : ∀ a u, H a = some u → H' a = some u) : RO K L F H' o v A := RO.keep (fun _ h => h) o v A (Kept.same g) h
theorem rp_ro {K : PySem.W.Frag} {L : Nat → Addr → Prop} {F : Fz} {H : Hp} {d : D} {v : V} (h : Rp K F H d v) : RO K L F H (.val d) v [] := by
  simp only [RO]; exact ⟨h, trivial⟩
theorem ro_rp {K : PySem.W.Frag} {L : Nat → Addr → Prop} {F : Fz} {H : Hp} {d : D} {v : V} {A : List Addr} (h : RO K L F H (.val d) v A) : Rp K F H d v := by
  simp only [RO] at h; exact h.1
theorem plainIx {N : List Str} {b : T} {y : Expr} (h : W.mt N sc b y = true) : PlainIx y := by
  cases y <;> first
    | (intro o i; rfl)
    | skip
  exfalso
  cases b <;> exact Bool.noConfusion (show false = true from h)
theorem mts_cons {N : List Str} {a s : T} {l : List Expr} (h : W.mts N sc (.cons a s) l = true) : (∃ i x p es, a = .ino i ∧ l = .Name x p :: es ∧ N[i]? = some x ∧ visB sc x = true ∧ nameOk x = true ∧ W.mts N sc s es = true) ∨
    ∃ e es, l = e :: es ∧ plainE e = true ∧ W.mt N sc a e = true ∧ W.mts N sc s es = true := by
  cases a
  case ino i =>
    left
    simp only [Wd.mts, mts] at h
    split at h
    · rename_i x p es
      simp only [Bool.and_eq_true, decide_eq_true_eq] at h
      exact ⟨i, x, p, es, rfl, rfl, h.1.1.1, h.1.1.2, h.1.2, h.2⟩
    · cases h
  all_goals
    right
    cases l with
    | nil => exact Bool.noConfusion (show false = true from h)
    | cons e es =>
      simp only [Wd.mts, mts, Bool.and_eq_true] at h
      exact ⟨e, es, rfl, h.1.1, h.1.2, h.2⟩
theorem mts_nil {N : List Str} {l : List Expr} (h : W.mts N sc .nil l = true) : l = [] := by
  simp only [Wd.mts, mts, List.isEmpty_iff] at h
  exact h
theorem len_val {x c : O} (h : biE .len [x] = some c) : c.isVal = true := by
  have iv_val : ∀ i : Int, iv i = some c → c.isVal = true := by
    intro i e
    simp only [iv, Option.some.injEq] at e
    subst e; rfl
  cases x with
  | val d =>
    cases d with
    | list ds => exact iv_val _ h
    | tuple ds => exact iv_val _ h
    | str z =>
      simp only [biE] at h
      split at h
      · exact iv_val _ h
      · cases h
    | none => cases h
    | bool _ => cases h
    | int _ => cases h
    | dict _ => cases h
  | lst os => exact iv_val _ h
  | tup os => exact iv_val _ h
  | fn k => cases h
  | scr ns => exact iv_val _ h
theorem room80 {k : Nat} {A : Around} (r : Room k A) : A.units + 80 < cLine := by
  have := r.un
  omega
/-- two still ones -/
theorem two_still {r : En} {oa ob : O} {σ : St} {H : Hp} {F : Fz} {B : List Addr} {R : V → V → Hp → Prop} {K : PySem.W.Frag} {L : Nat → Addr → Prop} (s : Stt K L F H r σ B)
    (h : ∀ v1 v2 H2 A1 A2, (∀ a u, H a = some u → H2 a = some u) → RO K L F H2 oa v1 A1 → (∀ a ∈ A1, a ∈ B) → RO K L F H2 ob v2 A2 → (∀ a ∈ A2, a ∈ B) → R v1 v2 H2) :
    tS K L r (some oa) σ H fun v1 H1 => tS K L r (some ob) σ H1 fun v2 H2 => R v1 v2 H2 := by
  refine ⟨F, B, oa, s, rfl, fun v1 H1 A1 g1 o1 i1 => ⟨F, B, ob, s.same g1, rfl, fun v2 H2 A2 g2 o2 i2 => ?_⟩⟩
  exact h v1 v2 H2 A1 A2 (fun a u e => g2 a u (g1 a u e)) (o1.grows g2) i1 o2 i2
theorem evS_bi (gl : List (Str × D)) (r : En) (b : Bi) (as : T) : evS gl r (.bi b as) = none ∨ ∃ a, b = .len ∧ as = .cons a .nil := by
  cases as
  case cons a s =>
    cases s
    case nil =>
      cases b
      case len => exact .inr ⟨a, rfl, rfl⟩
      all_goals exact .inl rfl
    all_goals exact .inl rfl
  all_goals exact .inl rfl
/-- what stands still gives what stands still -/
theorem ss : ∀ (t : T) (r : En) (e : Expr), W.G X sc sc0 → W.mt X.N sc t e = true → PE X e (tS X.K W.L r (evS W.gl r t))
  | .var i, r, e, g, h => by
    simp only [evS]
    cases he : ge r i with
    | none => exact pe_bot fun σ H Q => tS_none
    | some o =>
      refine pe_wk (se_var false i r e g h) fun σ H Q q => ?_
      obtain ⟨F, B, s, q⟩ := tS_mk q
      obtain ⟨v, A, e1, e2, e3⟩ := s.ge he
      exact ⟨v, e1, q v H A rd_refl e2 e3⟩
  | .con d, r, e, g, h => by
    obtain ⟨v, p, hv⟩ := se_con d e h
    refine pe_wk p fun σ H Q q => ?_
    simp only [evS] at q
    obtain ⟨F, B, s, q⟩ := tS_mk q
    exact q v H [] rd_refl (rp_ro (hv _ _)) (by simp)
  | .glo j, r, e, g, h => by
    obtain ⟨v, p, pe, ep, hv⟩ := se_glo j e g h
    refine pe_wk pe fun σ H Q q => ?_
    simp only [evS, ep, Option.map_some] at q
    obtain ⟨F, B, s, q⟩ := tS_mk q
    exact q v H [] rd_refl (rp_ro (hv _ _)) (by simp)
  | .bin op a b, r, e, g, h => by
    cases e <;> simp only [mt, Bool.false_eq_true] at h
    rename_i x oo y pos
    simp only [Bool.and_eq_true] at h
    obtain ⟨⟨ho, hx⟩, hy⟩ := h
    have ha := ss a r x g hx
    have hb := ss b r y g hy
    simp only [evS]
    split
    · rename_i d e' ea eb
      split
      · rename_i o eo
        split
        · rename_i hv
          obtain ⟨R, hR, hq⟩ := bin_op (X := X) op oo ho d e' o eo rfl
          rw [ea] at ha
          rw [eb] at hb
          refine pe_wk (pe_op hR ha hb) fun σ H Q q => ?_
          obtain ⟨F, B, s, q⟩ := tS_mk q
          refine two_still s fun v1 v2 H2 A1 A2 g1 o1 i1 o2 i2 => hq F H2 v1 v2 (Shv.of (ro_rp o1)) (Shv.of (ro_rp o2)) Q fun v H' nw => ?_
          obtain ⟨g2, o3⟩ := nw.ro (L := W.L) hv
          exact q v H' [] (fun a u e => g2 a u (g1 a u e)) o3 (by simp)
        · exact pe_bot fun σ H Q => tS_none
      · exact pe_bot fun σ H Q => tS_none
    · exact pe_bot fun σ H Q => tS_none
  | .neg a, r, e, g, h => by
    simp only [Wd.mt, mt] at h
    split at h <;> try (cases h; done)
    rename_i x pos
    have ha := ss a r x g h
    simp only [evS]
    split
    · rename_i i ea
      rw [ea] at ha
      refine pe_wk (pe_un un_neg ha) fun σ H Q q => ?_
      obtain ⟨F, B, s, q⟩ := tS_mk q
      refine ⟨F, B, _, s, rfl, fun v H' A g1 o1 i1 => ?_⟩
      have := ro_rp o1
      simp only [Rp] at this
      exact ⟨i, this, q _ H' [] g1 (rp_ro rfl) (by simp)⟩
    · exact pe_bot fun σ H Q => tS_none
  | .idx a b, r, e, g, h => by
    cases e <;> simp only [mt, Bool.false_eq_true] at h
    rename_i x y pos
    simp only [Bool.and_eq_true] at h
    obtain ⟨hx, hy⟩ := h
    have ha := ss a r x g hx
    have hb := ss b r y g hy
    simp only [evS]
    split
    · rename_i xo k ea eb
      rw [ea] at ha
      rw [eb] at hb
      cases ec : xo.child k with
      | none => exact pe_bot fun σ H Q => tS_none
      | some c =>
        obtain ⟨R, hR, hq⟩ := child_ok (L := W.L) (X := X) xo c k ec rfl
        refine pe_wk (pe_ix hR ha hb (plainIx hy)) fun σ H Q q => ?_
        obtain ⟨F, B, s, q⟩ := tS_mk q
        refine two_still s fun v1 v2 H2 A1 A2 g1 o1 i1 o2 i2 => ?_
        have e2 := ro_rp o2
        simp only [Rp] at e2
        subst e2
        exact hq F H2 v1 A1 o1 Q fun w A' o3 i3 => q w H2 A' g1 o3 fun a ha => i1 a (i3 a ha)
    · exact pe_bot fun σ H Q => tS_none
  | .bi b as, r, e, g, h => by
    rcases evS_bi W.gl r b as with h0 | ⟨a, rfl, rfl⟩
    · rw [h0]
      exact pe_bot fun σ H Q => tS_none
    simp only [Wd.mt, mt] at h
    split at h <;> try (cases h; done)
    rename_i x p es pos
    simp only [Bool.and_eq_true, decide_eq_true_eq] at h
    obtain ⟨⟨⟨⟨⟨h1, h2⟩, h3⟩, h4⟩, h5⟩, h6⟩ := h
    cases es with
    | nil => simp [biAr] at h6
    | cons e0 es =>
      cases es with
      | cons _ _ => simp [biAr] at h6
      | nil =>
        rcases mts_cons h5 with ⟨i, x', p', es', rfl, _⟩ | ⟨e', es', e1, hp, he, _⟩
        · exact pe_bot fun σ H Q => tS_none
        cases e1
        have ha := ss a r e0 g he
        simp only [evS]
        split
        · rename_i xo ea
          rw [ea] at ha
          cases ec : biE .len [xo] with
          | none => exact pe_bot fun σ H Q => tS_none
          | some c =>
            obtain ⟨R, hR, hq⟩ := bi_call (L := W.L) (X := X) g.calm g.gu (room80 g.room) .len [xo] c ec rfl
            refine pe_wk (bltE hR (gl_of g.sc h2) (g.frs _ (by simpa using h4)) h1 (pa_cons ha pa_nil (starE hp)) (by simp [hp]) h3) fun σ H Q q => ?_
            obtain ⟨F, B, s, q⟩ := tS_mk q
            refine ⟨F, B, _, s, rfl, fun v H' A g1 o1 i1 => ?_⟩
            refine hq F H' [v] A (by simp only [ROL]; exact ⟨v, [], A, [], rfl, o1, ⟨rfl, rfl⟩, by simp⟩) Q fun w H2 nw => ?_
            have hv := len_val ec
            obtain ⟨g2, o3⟩ := nw.ro (L := W.L) hv
            exact q w H2 [] (fun a u e => g2 a u (g1 a u e)) o3 (by simp)
        · exact pe_bot fun σ H Q => tS_none
  | .nil, r, e, g, h => pe_bot fun σ H Q => tS_none
  | .cons _ _, r, e, g, h => pe_bot fun σ H Q => tS_none
  | .fn _, r, e, g, h => pe_bot fun σ H Q => tS_none
  | .not _, r, e, g, h => pe_bot fun σ H Q => tS_none
  | .and _ _, r, e, g, h => pe_bot fun σ H Q => tS_none
  | .or _ _, r, e, g, h => pe_bot fun σ H Q => tS_none
  | .cmp _ _ _, r, e, g, h => pe_bot fun σ H Q => tS_none
  | .cmp2 _ _ _ _ _, r, e, g, h => pe_bot fun σ H Q => tS_none
  | .ife _ _ _, r, e, g, h => pe_bot fun σ H Q => tS_none
  | .tup _, r, e, g, h => pe_bot fun σ H Q => tS_none
  | .lst _, r, e, g, h => pe_bot fun σ H Q => tS_none
  | .slc _ _ _, r, e, g, h => pe_bot fun σ H Q => tS_none
  | .rev _, r, e, g, h => pe_bot fun σ H Q => tS_none
  | .lc _ _ _ _ _ _, r, e, g, h => pe_bot fun σ H Q => tS_none
  | .call _ _, r, e, g, h => pe_bot fun σ H Q => tS_none
  | .callk _ _ _ _ _, r, e, g, h => pe_bot fun σ H Q => tS_none
  | .ino _, r, e, g, h => pe_bot fun σ H Q => tS_none
  | .isi _ _, r, e, g, h => pe_bot fun σ H Q => tS_none
  | .lrg _, r, e, g, h => pe_bot fun σ H Q => tS_none
  | .lrg2 _ _, r, e, g, h => pe_bot fun σ H Q => tS_none
  | .app _ _, r, e, g, h => pe_bot fun σ H Q => tS_none
  | .ext _ _, r, e, g, h => pe_bot fun σ H Q => tS_none
  | .pop _, r, e, g, h => pe_bot fun σ H Q => tS_none
  | .popi _ _, r, e, g, h => pe_bot fun σ H Q => tS_none
termination_by t => sizeOf t
end
end Mi

end
section
set_option maxHeartbeats 2000000
/-! Mi19: expressions, one form after another. -/
namespace Mi
open PySem L2
section
variable {W : Wd}
theorem tR_mk {K : PySem.W.Frag} {L : Nat → Addr → Prop} {q pl : Bool} {r r' : En} {o : O} {σ : St} {H : Hp} {Q : VK} (h : tR K L q pl r (some (o, r')) σ H Q) : ∃ F B, Stt K L F H r σ B ∧
  ∀ v H' F' B' A, Ps K L q pl F B H r' o σ v H' F' B' A → Q v H' := by
  obtain ⟨F, B, o', r'', s, e, q⟩ := h
  simp only [Option.some.injEq, Prod.mk.injEq] at e
  obtain ⟨rfl, rfl⟩ := e
  exact ⟨F, B, s, q⟩
theorem tRs_mk {K : PySem.W.Frag} {L : Nat → Addr → Prop} {q m : Bool} {ns : List (Option Nat)} {r r' : En} {o : List O} {σ : St} {H : Hp} {Q : List V → Hp → Prop} (h : tRs K L q m ns r (some (o, r')) σ H Q) : ∃ F B, Stt K L F H r σ B ∧
  ∀ v H' F' B' A, Pss K L q m ns F B H r' o σ v H' F' B' A → Q v H' := by
  obtain ⟨F, B, o', r'', s, e, q⟩ := h
  simp only [Option.some.injEq, Prod.mk.injEq] at e
  obtain ⟨rfl, rfl⟩ := e
  exact ⟨F, B, s, q⟩
/-- where the value is plain there is no matter how it was looked at -/
theorem Ps.recast {K : PySem.W.Frag} {L : Nat → Addr → Prop} {q q' pl pl' : Bool} {F F' : Fz} {B B' A : List Addr} {H H' : Hp} {r' : En} {o : O} {σ : St} {v : V} (p : Ps K L q pl F B H r' o σ v H' F' B' A) (hv : o.isVal = true) (hq : q' = true → q = true) : Ps K L q' pl' F B H r' o σ v H' F' B' A := by
  have hA := RO.isVal p.ro hv
  subst hA
  exact ⟨p.tr, p.st, p.ro, fun _ => ⟨by simpa using p.st.nd, by simp, by simp⟩, fun _ => by simp, fun h => ⟨(p.qt (hq h)).1, fun _ => by simp⟩⟩
theorem Ps.bool {K : PySem.W.Frag} {L : Nat → Addr → Prop} {q pl : Bool} {F F' : Fz} {B B' A : List Addr} {H H' : Hp} {r' : En} {b : Bool} {σ : St} {v : V} (p : Ps K L q pl F B H r' (.val (.bool b)) σ v H' F' B' A) : v = .bl b := by
  have := ro_rp p.ro
  simpa only [Rp] using this
theorem Ps.int {K : PySem.W.Frag} {L : Nat → Addr → Prop} {q pl : Bool} {F F' : Fz} {B B' A : List Addr} {H H' : Hp} {r' : En} {b : Int} {σ : St} {v : V} (p : Ps K L q pl F B H r' (.val (.int b)) σ v H' F' B' A) : v = .int b := by
  have := ro_rp p.ro
  simpa only [Rp] using this
theorem Ps.quiet {K : PySem.W.Frag} {L : Nat → Addr → Prop} {q pl : Bool} {F F' : Fz} {B B' A : List Addr} {H H' : Hp} {r' : En} {o : O} {σ : St} {v : V} (p : Ps K L q pl F B H r' o σ v H' F' B' A) : q = true → ∀ a u, H a = some u → H' a = some u := fun h => (p.qt h).1
theorem blq {o : O} {b : Bool} (h : bl? o = some b) : o = .val (.bool b) := by
  cases o with
  | val d =>
    cases d with
    | bool c => simp only [bl?, Option.some.injEq] at h; subst h; rfl
    | _ => cases h
  | _ => cases h
theorem snd_var (i : Nat) : SE W (.var i) := by
  intro m r X sc sc0 e g h
  have p := se_var false i r e g h
  cases m with
  | true =>
    simp only [Wd.ev, ev]
    cases he : frz r i with
    | none => exact pe_bot fun σ H Q => tR_none
    | some x =>
      obtain ⟨o, r'⟩ := x
      refine pe_wk p fun σ H Q q => ?_
      obtain ⟨F, B, s, q⟩ := tR_mk q
      obtain ⟨v, F', B', e1, e2⟩ := frz_ok s he
      exact ⟨v, e1, q v H F' B' [] (e2 _ _)⟩
  | false =>
    simp only [Wd.ev, ev]
    cases he : ge r i with
    | none => exact pe_bot fun σ H Q => tR_none
    | some o =>
      refine pe_wk p fun σ H Q q => ?_
      obtain ⟨F, B, s, q⟩ := tR_mk q
      obtain ⟨v, A, e1, e2, e3⟩ := s.ge he
      exact ⟨v, e1, q v H F B A ⟨Tr.refl, s, e2, (fun h => nomatch h), fun _ => e3, fun _ => ⟨rd_refl, (fun h => nomatch h)⟩⟩⟩
theorem snd_con (d : D) : SE W (.con d) := by
  intro m r X sc sc0 e g h
  obtain ⟨v, p, hv⟩ := se_con d e h
  refine pe_wk p fun σ H Q q => ?_
  simp only [Wd.ev, ev] at q
  obtain ⟨F, B, s, q⟩ := tR_mk q
  exact q v H F B [] (Ps.plain Tr.refl s (hv _ _) fun _ => rd_refl)
theorem snd_glo (j : Nat) : SE W (.glo j) := by
  intro m r X sc sc0 e g h
  obtain ⟨v, p, pe, ep, hv⟩ := se_glo j e g h
  refine pe_wk pe fun σ H Q q => ?_
  simp only [Wd.ev, ev, ep] at q
  obtain ⟨F, B, s, q⟩ := tR_mk q
  exact q v H F B [] (Ps.plain Tr.refl s (hv _ _) fun _ => rd_refl)
theorem snd_fn (k : Nat) : SE W (.fn k) := by
  intro m r X sc sc0 e g h
  simp only [Wd.mt, mt] at h
  split at h <;> try (cases h; done)
  rename_i x pos
  simp only [Bool.and_eq_true, decide_eq_true_eq] at h
  obtain ⟨⟨h1, h2⟩, h3⟩ := h
  obtain ⟨n1, n2, n3⟩ := name_ok h3
  obtain ⟨f, fd, ps, g1, g2, g3, _⟩ := g.fns k x h1
  refine pe_wk (pe_glob (v := .ref f) (gl_of g.sc h2) g1 rfl n1) fun σ H Q q => ?_
  simp only [Wd.ev, ev] at q
  obtain ⟨F, B, s, q⟩ := tR_mk q
  refine q (.ref f) H F B [] ⟨Tr.refl, s, by simp only [RO]; exact ⟨f, rfl, g3, trivial⟩, fun _ => ⟨by simpa using s.nd, by simp, by simp⟩, fun _ => by simp, fun _ => ⟨rd_refl, fun _ => by simp⟩⟩
theorem snd_bin {op : Bop} {a b : T} (ha : SE W a) (hb : SE W b) : SE W (.bin op a b) := by
  intro m r X sc sc0 e g h
  simp only [Wd.mt, mt] at h
  split at h <;> try (cases h; done)
  rename_i x oo y pos
  simp only [Bool.and_eq_true] at h
  obtain ⟨⟨ho, hx⟩, hy⟩ := h
  simp only [Wd.ev, ev]
  split
  · rename_i xo r1 ea
    split
    · rename_i yo r2 eb
      split
      · rename_i hc
        split
        · rename_i d e' ed ee
          cases eo : binD op d e' with
          | none => exact pe_bot fun σ H Q => tR_none
          | some o =>
            obtain ⟨R, hR, hq⟩ := bin_op (X := X) op oo ho d e' o eo rfl
            refine pe_wk (pe_op hR (ha false r X sc sc0 x g hx) (hb false r1 X sc sc0 y g hy)) fun σ H Q q => ?_
            obtain ⟨F, B, s, q⟩ := tR_mk q
            refine two_ok hc s ea eb fun v1 v2 H2 F2 B2 A1 A2 t s2 o1 o2 kq => hq F2 H2 v1 v2 (o1.shv ed) (o2.shv ee) Q fun v H' nw => ?_
            obtain ⟨A, p⟩ := nw.ps (q := a.qt && b.qt) (B := B) (r1 := r2) t s2 (fun hq => by rw [Bool.and_eq_true] at hq; exact kq hq.1 hq.2)
            refine q v H' F2 B2 A ?_
            have : (!m && (T.bin op a b).isPl) = false := by simp [T.isPl]
            rw [this]
            exact p
        · exact pe_bot fun σ H Q => tR_none
      · exact pe_bot fun σ H Q => tR_none
    · exact pe_bot fun σ H Q => tR_none
  · exact pe_bot fun σ H Q => tR_none
theorem snd_not {a : T} (ha : SE W a) : SE W (.not a) := by
  intro m r X sc sc0 e g h
  simp only [Wd.mt, mt] at h
  split at h <;> try (cases h; done)
  rename_i x pos
  simp only [Wd.ev, ev]
  split
  · rename_i xo r1 ea
    cases eb : bl? xo with
    | none => exact pe_bot fun σ H Q => tR_none
    | some b =>
      have := blq eb
      subst this
      refine pe_wk (pe_not (ha false r X sc sc0 x g h)) fun σ H Q q => ?_
      obtain ⟨F, B, s, q⟩ := tR_mk q
      refine ⟨F, B, _, _, s, ea, fun v H' F' B' A p => ⟨b, p.bool, q _ H' F' B' [] (Ps.plain p.tr p.st rfl p.quiet)⟩⟩
  · exact pe_bot fun σ H Q => tR_none
theorem snd_neg {a : T} (ha : SE W a) : SE W (.neg a) := by
  intro m r X sc sc0 e g h
  simp only [Wd.mt, mt] at h
  split at h <;> try (cases h; done)
  rename_i x pos
  simp only [Wd.ev, ev]
  split
  · rename_i i r1 ea
    refine pe_wk (pe_un un_neg (ha false r X sc sc0 x g h)) fun σ H Q q => ?_
    obtain ⟨F, B, s, q⟩ := tR_mk q
    refine ⟨F, B, _, _, s, ea, fun v H' F' B' A p => ⟨i, p.int, q _ H' F' B' [] (Ps.plain p.tr p.st rfl p.quiet)⟩⟩
  · exact pe_bot fun σ H Q => tR_none
theorem quiet2 {a b : Bool} {H H1 H2 : Hp} (h1 : a = true → ∀ a u, H a = some u → H1 a = some u) (h2 : b = true → ∀ a u, H1 a = some u → H2 a = some u) : (a && b) = true → ∀ a u, H a = some u → H2 a = some u := fun h => by
  rw [Bool.and_eq_true] at h
  exact fun x u e => h2 h.2 x u (h1 h.1 x u e)
theorem bop_one {X : Cx} {t : TE} {op : BoolOp} {y : Expr} {rest : List Expr} {pos : Pos} {N : List Str} {sc : Scope} {b : T} (hb : ∀ e, W.mt N sc b e = true → PE X e t) (h : (match rest with
    | [] => Mi.mt N W.nm W.fr W.gl W.kwt sc b y
    | _ => Mi.mt N W.nm W.fr W.gl W.kwt sc b (.BoolOp op (y :: rest) pos)) = true) : PE X (.BoolOp op (y :: rest) pos) t := by
  cases rest with
  | nil => exact pe_one (hb y h)
  | cons z zs => exact hb _ h
theorem snd_and {a b : T} (ha : SE W a) (hb : SE W b) : SE W (.and a b) := by
  intro m r X sc sc0 e g h
  simp only [Wd.mt, mt] at h
  split at h <;> try (cases h; done)
  rename_i x y rest pos
  simp only [Bool.and_eq_true] at h
  obtain ⟨hx, hy⟩ := h
  simp only [Wd.ev, ev]
  split
  · rename_i r1 ea
    have pb := bop_one (W := W) (b := b) (fun e he => hb false r1 X sc sc0 e g he) hy
    split
    · rename_i c r2 eb
      refine pe_wk (pe_and (ha false r X sc sc0 x g hx) pb) fun σ H Q q => ?_
      obtain ⟨F, B, s, q⟩ := tR_mk q
      refine ⟨F, B, _, _, s, ea, fun v H' F' B' A p => ⟨true, p.bool, ?_⟩⟩
      rw [if_pos rfl]
      refine ⟨F', B', _, _, p.st, eb, fun v2 H2 F2 B2 A2 p2 => ?_⟩
      have e2 := p2.bool
      subst e2
      exact q _ H2 F2 B2 [] (Ps.plain (p.tr.trans p2.tr) p2.st rfl (quiet2 p.quiet p2.quiet))
    · exact pe_bot fun σ H Q => tR_none
  · rename_i r1 ea
    have pb := bop_one (W := W) (b := b) (fun e he => hb false r1 X sc sc0 e g he) hy
    refine pe_wk (pe_and (ha false r X sc sc0 x g hx) pb) fun σ H Q q => ?_
    obtain ⟨F, B, s, q⟩ := tR_mk q
    refine ⟨F, B, _, _, s, ea, fun v H' F' B' A p => ⟨false, p.bool, ?_⟩⟩
    rw [if_neg (by decide)]
    exact q _ H' F' B' [] (Ps.plain p.tr p.st rfl fun h => by
      rw [T.qt, Bool.and_eq_true] at h
      exact p.quiet h.1)
  · exact pe_bot fun σ H Q => tR_none
theorem snd_or {a b : T} (ha : SE W a) (hb : SE W b) : SE W (.or a b) := by
  intro m r X sc sc0 e g h
  simp only [Wd.mt, mt] at h
  split at h <;> try (cases h; done)
  rename_i x y rest pos
  simp only [Bool.and_eq_true] at h
  obtain ⟨hx, hy⟩ := h
  simp only [Wd.ev, ev]
  split
  · rename_i r1 ea
    have pb := bop_one (W := W) (b := b) (fun e he => hb false r1 X sc sc0 e g he) hy
    split
    · rename_i c r2 eb
      refine pe_wk (pe_or (ha false r X sc sc0 x g hx) pb) fun σ H Q q => ?_
      obtain ⟨F, B, s, q⟩ := tR_mk q
      refine ⟨F, B, _, _, s, ea, fun v H' F' B' A p => ⟨false, p.bool, ?_⟩⟩
      rw [if_neg (by decide)]
      refine ⟨F', B', _, _, p.st, eb, fun v2 H2 F2 B2 A2 p2 => ?_⟩
      have e2 := p2.bool
      subst e2
      exact q _ H2 F2 B2 [] (Ps.plain (p.tr.trans p2.tr) p2.st rfl (quiet2 p.quiet p2.quiet))
    · exact pe_bot fun σ H Q => tR_none
  · rename_i r1 ea
    have pb := bop_one (W := W) (b := b) (fun e he => hb false r1 X sc sc0 e g he) hy
    refine pe_wk (pe_or (ha false r X sc sc0 x g hx) pb) fun σ H Q q => ?_
    obtain ⟨F, B, s, q⟩ := tR_mk q
    refine ⟨F, B, _, _, s, ea, fun v H' F' B' A p => ⟨true, p.bool, ?_⟩⟩
    rw [if_pos rfl]
    exact q _ H' F' B' [] (Ps.plain p.tr p.st rfl fun h => by
      rw [T.qt, Bool.and_eq_true] at h
      exact p.quiet h.1)
  · exact pe_bot fun σ H Q => tR_none
theorem snd_cmp {op : Cop} {a b : T} (ha : SE W a) (hb : SE W b) : SE W (.cmp op a b) := by
  intro m r X sc sc0 e g h
  simp only [Wd.mt, mt] at h
  split at h <;> try (cases h; done)
  rename_i x oo y pos
  simp only [Bool.and_eq_true, Bool.not_eq_true'] at h
  obtain ⟨⟨⟨ho, hx⟩, hy⟩, hm⟩ := h
  simp only [Wd.ev, ev]
  split
  · rename_i xo r1 ea
    split
    · rename_i yo r2 eb
      split
      · rename_i hc
        split
        · rename_i d e' ed ee
          cases eo : cmpD op d e' with
          | none => exact pe_bot fun σ H Q => tR_none
          | some c =>
            obtain ⟨R, hR, hq⟩ := cmp_op (X := X) g.room.units op oo ho d e' c eo rfl
            refine pe_wk (pe_cmpR hR (ha false r X sc sc0 x g hx) (hb false r1 X sc sc0 y g hy) hm) fun σ H Q q => ?_
            obtain ⟨F, B, s, q⟩ := tR_mk q
            refine two_ok hc s ea eb fun v1 v2 H2 F2 B2 A1 A2 t s2 o1 o2 kq => hq F2 H2 v1 v2 (o1.shv ed) (o2.shv ee) Q ?_
            exact q _ H2 F2 B2 [] (Ps.plain t s2 rfl fun hq => by rw [T.qt, Bool.and_eq_true] at hq; exact kq hq.1 hq.2)
        · exact pe_bot fun σ H Q => tR_none
      · exact pe_bot fun σ H Q => tR_none
    · exact pe_bot fun σ H Q => tR_none
  · exact pe_bot fun σ H Q => tR_none
theorem snd_cmp2 {p q : Cop} {a b c : T} (ha : SE W a) (hb : SE W b) (hc : SE W c) : SE W (.cmp2 p q a b c) := by
  intro m r X sc sc0 e g h
  simp only [Wd.mt, mt] at h
  split at h <;> try (cases h; done)
  rename_i x o1 o2 y z pos
  simp only [Bool.and_eq_true, Bool.not_eq_true'] at h
  obtain ⟨⟨⟨⟨⟨h1, h2⟩, hx⟩, hy⟩, hz⟩, hm⟩ := h
  simp only [Wd.ev, ev]
  split
  · rename_i xd r1 ea
    split
    · rename_i yd r2 eb
      split
      · rename_i ec
        obtain ⟨R, hR, hq⟩ := cmp_op (X := X) g.room.units p o1 h1 xd yd true ec rfl
        split
        · rename_i zd r3 ecc
          cases ek : cmpD q yd zd with
          | none => exact pe_bot fun σ H Q => tR_none
          | some k =>
            obtain ⟨R2, hR2, hq2⟩ := cmp_op (X := X) g.room.units q o2 h2 yd zd k ek rfl
            refine pe_wk (pe_chain hR hR2 (ha false r X sc sc0 x g hx) (hb false r1 X sc sc0 y g hy) (hc false r2 X sc sc0 z g hz) hm) fun σ H Q qq => ?_
            obtain ⟨F, B, s, qq⟩ := tR_mk qq
            refine ⟨F, B, _, _, s, ea, fun v1 H1 F1 B1 A1 p1 => ⟨F1, B1, _, _, p1.st, eb, fun v2 H2 F2 B2 A2 p2 => ?_⟩⟩
            have k1 : Rp X.K F2 H2 xd v1 := Rp.keep p2.tr.e1 (p2.tr.kept p1.st (A := []) (by simp)) _ _ (ro_rp p1.ro)
            refine hq F2 H2 v1 v2 (Shv.of k1) (Shv.of (ro_rp p2.ro)) _ ⟨true, rfl, ?_⟩
            rw [if_pos rfl]
            refine ⟨F2, B2, _, _, p2.st, ecc, fun v3 H3 F3 B3 A3 p3 => ?_⟩
            have k2 : Rp X.K F3 H3 yd v2 := Rp.keep p3.tr.e1 (p3.tr.kept p2.st (A := []) (by simp)) _ _ (ro_rp p2.ro)
            refine hq2 F3 H3 v2 v3 (Shv.of k2) (Shv.of (ro_rp p3.ro)) Q (qq _ H3 F3 B3 [] (Ps.plain ((p1.tr.trans p2.tr).trans p3.tr) p3.st rfl ?_))
            exact quiet2 (quiet2 p1.quiet p2.quiet) p3.quiet
        · exact pe_bot fun σ H Q => tR_none
      · rename_i ec
        obtain ⟨R, hR, hq⟩ := cmp_op (X := X) g.room.units p o1 h1 xd yd false ec rfl
        have hop : ∀ f, OpR X f (fun _ _ _ _ => False) := fun f pins s σ H x y v u Q _ _ _ h => h.elim
        refine pe_wk (pe_chain hR (hop _) (ha false r X sc sc0 x g hx) (hb false r1 X sc sc0 y g hy) (hc false r2 X sc sc0 z g hz) hm) fun σ H Q qq => ?_
        obtain ⟨F, B, s, qq⟩ := tR_mk qq
        refine ⟨F, B, _, _, s, ea, fun v1 H1 F1 B1 A1 p1 => ⟨F1, B1, _, _, p1.st, eb, fun v2 H2 F2 B2 A2 p2 => ?_⟩⟩
        have k1 : Rp X.K F2 H2 xd v1 := Rp.keep p2.tr.e1 (p2.tr.kept p1.st (A := []) (by simp)) _ _ (ro_rp p1.ro)
        refine hq F2 H2 v1 v2 (Shv.of k1) (Shv.of (ro_rp p2.ro)) _ ⟨false, rfl, ?_⟩
        rw [if_neg (by decide)]
        refine qq _ H2 F2 B2 [] (Ps.plain (p1.tr.trans p2.tr) p2.st rfl fun hh => ?_)
        rw [T.qt, Bool.and_eq_true] at hh
        exact quiet2 p1.quiet p2.quiet hh.1
      · exact pe_bot fun σ H Q => tR_none
    · exact pe_bot fun σ H Q => tR_none
  · exact pe_bot fun σ H Q => tR_none
theorem snd_ife {c a b : T} (hc : ST W c) (ha : SE W a) (hb : SE W b) : SE W (.ife c a b) := by
  intro m r X sc sc0 e g h
  simp only [Wd.mt, mt] at h
  split at h <;> try (cases h; done)
  rename_i t x y pos
  simp only [Bool.and_eq_true] at h
  obtain ⟨⟨⟨htt, ht⟩, hx⟩, hy⟩ := h
  have hc := hc htt
  simp only [Wd.ev, ev]
  have hpl : (!m && (T.ife c a b).isPl) = false := by simp [T.isPl]
  rw [hpl]
  split
  · rename_i r1 ec
    refine pe_wk (pe_ifExp (hc r X sc sc0 t g ht) (ha true r1 X sc sc0 x g hx) (hb true r1 X sc sc0 y g hy)) fun σ H Q q => ?_
    obtain ⟨F, B, o, r', s, e, q⟩ := q
    refine ⟨F, B, _, _, s, ec, fun H' F' B' t' s' q' => ?_⟩
    show (if true = true then _ else _)
    rw [if_pos rfl]
    refine ⟨F', B', o, r', s', e, fun v H2 F2 B2 A2 p => q v H2 F2 B2 A2 ⟨t'.trans p.tr, p.st, p.ro, fun h => ?_, (fun h => nomatch h), fun h => ?_⟩⟩
    · obtain ⟨f1, f2, f3⟩ := p.fr h
      exact ⟨f1, f2, fun a ha => by
        rcases f3 a ha with hb | hb
        · exact t'.nb a hb
        · exact t'.none_of hb⟩
    · rw [T.qt, Bool.and_eq_true, Bool.and_eq_true] at h
      have q1 := q' h.1.1
      obtain ⟨q2, q3⟩ := p.qt h.1.2
      refine ⟨fun a u e => q2 a u (q1 a u e), fun hh a ha => ?_⟩
      cases e0 : H a with
      | none => rfl
      | some u =>
        have := q3 hh a ha
        rw [q1 a u e0] at this
        cases this
  · rename_i r1 ec
    refine pe_wk (pe_ifExp (hc r X sc sc0 t g ht) (ha true r1 X sc sc0 x g hx) (hb true r1 X sc sc0 y g hy)) fun σ H Q q => ?_
    obtain ⟨F, B, o, r', s, e, q⟩ := q
    refine ⟨F, B, _, _, s, ec, fun H' F' B' t' s' q' => ?_⟩
    show (if false = true then _ else _)
    rw [if_neg (by decide)]
    refine ⟨F', B', o, r', s', e, fun v H2 F2 B2 A2 p => q v H2 F2 B2 A2 ⟨t'.trans p.tr, p.st, p.ro, fun h => ?_, (fun h => nomatch h), fun h => ?_⟩⟩
    · obtain ⟨f1, f2, f3⟩ := p.fr h
      exact ⟨f1, f2, fun a ha => by
        rcases f3 a ha with hb | hb
        · exact t'.nb a hb
        · exact t'.none_of hb⟩
    · rw [T.qt, Bool.and_eq_true, Bool.and_eq_true] at h
      have q1 := q' h.1.1
      obtain ⟨q2, q3⟩ := p.qt h.2
      refine ⟨fun a u e => q2 a u (q1 a u e), fun hh a ha => ?_⟩
      cases e0 : H a with
      | none => rfl
      | some u =>
        have := q3 hh a ha
        rw [q1 a u e0] at this
        cases this
  · exact pe_bot fun σ H Q => tR_none
end
end Mi

end
section
set_option maxHeartbeats 2000000
/-! Mi20: arguments, displays, places, slices, built-ins. -/
namespace Mi
open PySem L2
section
variable {W : Wd} {K : PySem.W.Frag} {L : Nat → Addr → Prop} {F F1 F2 : Fz} {H H1 H2 : Hp} {r r1 r2 : En} {σ : St} {B B1 B2 A1 A2 : List Addr}
theorem not_pl {m : Bool} {t : T} (h : t.isPl = false) : (!m && t.isPl) = false := by rw [h]; simp
/-- what a value is made of stays while the next ones are run -/
theorem Ps.carry {q m apl sq : Bool} {ns : List (Option Nat)} {o : O} {os : List O} {v : V} {vs : List V} (p1 : Ps K L q (!m && apl) F B H r1 o σ v H1 F1 B1 A1)
    (t : Tr F1 B1 H1 F2 B2 H2) (hq : sq = true → ∀ a u, H1 a = some u → H2 a = some u) (hc : (o.isVal || m || !apl || sq) = true) : RO K L F2 H2 o v A1 := by
  have far : (!m && apl) = false → RO K L F2 H2 o v A1 := fun hp => by
    obtain ⟨f1, f2, f3⟩ := p1.fr hp
    refine RO.keep t.e1 o v A1 (t.kept p1.st fun a ha hb => ?_) p1.ro
    exact (List.nodup_append.mp f1).2.2 a hb a ha rfl
  by_cases h1 : o.isVal = true
  · have := RO.isVal p1.ro h1
    subst this
    exact RO.keep t.e1 o v [] (t.kept p1.st (by simp)) p1.ro
  · cases m with
    | true => exact far rfl
    | false =>
      cases apl with
      | false => exact far rfl
      | true =>
        have h1 : o.isVal = false := by simpa using h1
        have : sq = true := by simpa [h1] using hc
        exact RO.keep t.e1 o v A1 (Kept.same (hq this)) p1.ro
theorem pss_nil {q m : Bool} (s : Stt K L F H r σ B) : Pss K L q m [] F B H r [] σ [] H F B [] :=
  ⟨Tr.refl, s, ⟨rfl, rfl, rfl⟩, fun _ => ⟨by simpa using s.nd, by simp, by simp⟩, fun _ => ⟨rd_refl, fun _ => by simp⟩⟩
theorem pss_cons {q m apl sq : Bool} {ns : List (Option Nat)} {o : O} {os : List O} {v : V} {vs : List V} (p1 : Ps K L q (!m && apl) F B H r1 o σ v H1 F1 B1 A1)
    (p2 : Pss K L sq m ns F1 B1 H1 r2 os σ vs H2 F2 B2 A2) (hc : (o.isVal || m || !apl || sq) = true) : Pss K L (q && sq) m (none :: ns) F B H r2 (o :: os) σ (v :: vs) H2 F2 B2 (A1 ++ A2) where
  tr := p1.tr.trans p2.tr
  st := p2.st
  ro := ⟨o, os, v, vs, A1, A2, rfl, rfl, p1.carry (ns := ns) (os := os) (vs := vs) p2.tr (fun h => (p2.qt h).1) hc, p2.ro, rfl⟩
  fr := fun hm => by
    subst hm
    obtain ⟨f1, f2, f3⟩ := p1.fr rfl
    obtain ⟨g1, g2, g3⟩ := p2.fr rfl
    have d1 : ∀ a ∈ A1, a ∉ B1 := fun a ha hb => (List.nodup_append.mp f1).2.2 a hb a ha rfl
    have l1 : ∀ a ∈ A1, H1 a ≠ none := fun a ha => by
      obtain ⟨xs, e⟩ := RO.own o v A1 p1.ro a ha
      rw [e]; simp
    have o1 : ∀ a ∈ A1, ¬ (a ∈ B1 ∨ H1 a = none) := fun a ha h => h.elim (d1 a ha) (l1 a ha)
    have n1 := (List.nodup_append.mp f1).2.1
    obtain ⟨n2, n3, n4⟩ := List.nodup_append.mp g1
    refine ⟨List.nodup_append.mpr ⟨n2, List.nodup_append.mpr ⟨n1, n3, ?_⟩, ?_⟩, ?_, ?_⟩
    · rintro a ha b hb rfl
      exact o1 a ha (g3 a hb)
    · rintro a ha b hb rfl
      rcases List.mem_append.mp hb with hb | hb
      · exact o1 a hb (p2.tr.nb a ha)
      · exact n4 a ha a hb rfl
    · intro a ha hf
      rcases List.mem_append.mp ha with ha | ha
      · rcases p2.tr.e3 a hf with q | q | q
        · exact f2 a ha q
        · exact d1 a ha q
        · exact l1 a ha q
      · exact g2 a ha hf
    · intro a ha
      rcases List.mem_append.mp ha with ha | ha
      · exact f3 a ha
      · rcases g3 a ha with q | q
        · exact p1.tr.nb a q
        · exact p1.tr.none_of q
  qt := fun h => by
    rw [Bool.and_eq_true] at h
    obtain ⟨a1, a2⟩ := p1.qt h.1
    obtain ⟨b1, b2⟩ := p2.qt h.2
    refine ⟨fun a u e => b1 a u (a1 a u e), fun hm a ha => ?_⟩
    subst hm
    rcases List.mem_append.mp ha with ha | ha
    · exact a2 rfl a ha
    · have := b2 rfl a ha
      cases e : H a with
      | none => rfl
      | some u => rw [a1 a u e] at this; cases this
theorem pss_ino {i : Nat} {sq : Bool} {ns : List (Option Nat)} {o : O} {os : List O} {v : V} {vs : List V} (e : σ[i]? = some (some v))
    (p2 : Pss K L sq true ns F B H r2 os σ vs H2 F2 B2 A2) : Pss K L false true (some i :: ns) F B H r2 (o :: os) σ (v :: vs) H2 F2 B2 A2 where
  tr := p2.tr
  st := p2.st
  ro := ⟨o, os, v, vs, rfl, rfl, e, p2.ro⟩
  fr := p2.fr
  qt := fun h => nomatch h
theorem roi_rol : ∀ {ns : List (Option Nat)} {os : List O} {vs : List V} {A : List Addr}, ns.all (·.isNone) = true → ROI K L F H σ ns os vs A → ROL K L F H os vs A
  | [], _, _, _, _, h => by
    obtain ⟨rfl, rfl, rfl⟩ := h
    simp [ROL]
  | some i :: ns, _, _, _, hn, _ => by simp at hn
  | none :: ns, os, vs, A, hn, h => by
    obtain ⟨o, os', v, vs', A1, A2, rfl, rfl, h1, h2, rfl⟩ := h
    simp only [ROL]
    exact ⟨v, vs', A1, A2, rfl, h1, roi_rol (by simpa using hn) h2, rfl⟩
theorem inos_cons {a s : T} (h : ∀ i, a ≠ .ino i) : inos (.cons a s) = none :: inos s := by
  cases a
  case ino i => exact absurd rfl (h i)
  all_goals rfl
theorem evs_cons {m : Bool} {a s : T} (h : ∀ i, a ≠ .ino i) : W.evs m (.cons a s) r = match W.ev m a r with
    | some (o, r1) => match W.evs m s r1 with
      | some (os, r2) => if o.isVal || m || !a.isPl || s.qt then some (o :: os, r2) else none
      | none => none
    | none => none := by
  cases a
  case ino i => exact absurd rfl (h i)
  all_goals rfl
theorem evs_ino {m : Bool} {i : Nat} {s : T} : W.evs m (.cons (.ino i) s) r = match m with
    | true => (match ge r i with
      | some _ => (match W.evs true s r with
        | some (os, r2) => some (.fn 0 :: os, r2)
        | none => none)
      | none => none)
    | false => none := rfl
theorem mt_noino {N : List Str} {sc : Scope} {a : T} {e : Expr} (h : W.mt N sc a e = true) : ∀ i, a ≠ .ino i := by
  rintro i rfl
  exact Bool.noConfusion (show false = true from h)
theorem mt_plain {N : List Str} {sc : Scope} {a : T} {e : Expr} (h : W.mt N sc a e = true) : plainE e = true := by
  cases e
  case Starred x p =>
    exfalso
    cases a <;> exact Bool.noConfusion (show false = true from h)
  all_goals rfl
theorem evs_noino : ∀ {t : T} {r : En} {os : List O} {r1 : En}, W.evs false t r = some (os, r1) → (inos t).all (·.isNone) = true
  | .cons a s, r, os, r1, h => by
    by_cases hi : ∃ i, a = .ino i
    · obtain ⟨i, rfl⟩ := hi
      cases h
    · have hi : ∀ i, a ≠ .ino i := fun i e => hi ⟨i, e⟩
      rw [evs_cons hi] at h
      rw [inos_cons hi]
      split at h
      · split at h
        · rename_i e2
          simpa using evs_noino e2
        · cases h
      · cases h
  | .var _, _, _, _, _ => rfl
  | .con _, _, _, _, _ => rfl
  | .glo _, _, _, _, _ => rfl
  | .fn _, _, _, _, _ => rfl
  | .bin _ _ _, _, _, _, _ => rfl
  | .not _, _, _, _, _ => rfl
  | .neg _, _, _, _, _ => rfl
  | .and _ _, _, _, _, _ => rfl
  | .or _ _, _, _, _, _ => rfl
  | .cmp _ _ _, _, _, _, _ => rfl
  | .cmp2 _ _ _ _ _, _, _, _, _ => rfl
  | .ife _ _ _, _, _, _, _ => rfl
  | .tup _, _, _, _, _ => rfl
  | .lst _, _, _, _, _ => rfl
  | .nil, _, _, _, _ => rfl
  | .idx _ _, _, _, _, _ => rfl
  | .slc _ _ _, _, _, _, _ => rfl
  | .rev _, _, _, _, _ => rfl
  | .lc _ _ _ _ _ _, _, _, _, _ => rfl
  | .call _ _, _, _, _, _ => rfl
  | .callk _ _ _ _ _, _, _, _, _ => rfl
  | .ino _, _, _, _, _ => rfl
  | .bi _ _, _, _, _, _ => rfl
  | .isi _ _, _, _, _, _ => rfl
  | .lrg _, _, _, _, _ => rfl
  | .lrg2 _ _, _, _, _, _ => rfl
  | .app _ _, _, _, _, _ => rfl
  | .ext _ _, _, _, _, _ => rfl
  | .pop _, _, _, _, _ => rfl
  | .popi _ _, _, _, _, _ => rfl
theorem sa_nil : SA W .nil := by
  intro m r X sc sc0 es g h
  have := mts_nil h
  subst this
  refine ⟨rfl, fun _ => rfl, pa_wk pa_nil fun σ H Q q => ?_⟩
  simp only [Wd.evs, evs] at q
  obtain ⟨F, B, s, q⟩ := tRs_mk q
  exact q [] H F B [] (pss_nil s)
theorem sa_cons {a s : T} (ha : SE W a) (hs : SA W s) : SA W (.cons a s) := by
  intro m r X sc sc0 es g h
  rcases mts_cons h with ⟨i, x, p, es', rfl, rfl, e1, e2, e3, e4⟩ | ⟨e, es', rfl, hp, he, hes⟩
  · obtain ⟨hp, _, _⟩ := hs true r X sc sc0 es' g e4
    refine ⟨by simp [hp, plainE], (fun h => nomatch h), ?_⟩
    rw [evs_ino]
    cases m with
    | false => exact pa_bot fun σ H Q => tRs_none
    | true =>
      cases eg : ge r i with
      | none => exact pa_bot fun σ H Q => tRs_none
      | some o0 =>
        obtain ⟨n1, n2, n3⟩ := name_ok e3
        show PA X _ (tRs X.K W.L (T.cons (T.ino i) s).qt true (inos (T.cons (T.ino i) s)) r (match W.evs true s r with
          | some (os, r2) => some (.fn 0 :: os, r2)
          | none => none))
        split
        · rename_i os r2 ev
          obtain ⟨_, _, pa⟩ := hs true r X sc sc0 es' g e4
          refine pa_wk (pa_cons (pe_var (pos := p) e1 (vis_of g.sc e2) n1 n2) pa) fun σ H Q q => ?_
          obtain ⟨F, B, s, q⟩ := tRs_mk q
          obtain ⟨v, A, g1, _, _⟩ := s.ge eg
          refine ⟨v, g1, F, B, os, r2, s, ev, fun vs H2 F2 B2 A2 p2 => q _ H2 F2 B2 A2 (pss_ino g1 p2)⟩
        · exact pa_bot fun σ H Q => tRs_none
  · have hi := mt_noino he
    rw [inos_cons hi, evs_cons hi]
    obtain ⟨hp2, _, _⟩ := hs m r X sc sc0 es' g hes
    refine ⟨by simp [hp, hp2], (fun h => nomatch h), ?_⟩
    split
    · rename_i o r1 ea
      obtain ⟨_, _, pa⟩ := hs m r1 X sc sc0 es' g hes
      split
      · rename_i os r2 eb
        split
        · rename_i hc
          refine pa_wk (pa_cons (ha m r X sc sc0 e g he) pa (starE hp)) fun σ H Q q => ?_
          obtain ⟨F, B, s, q⟩ := tRs_mk q
          refine ⟨F, B, o, r1, s, ea, fun v H1 F1 B1 A1 p1 => ⟨F1, B1, os, r2, p1.st, eb, fun vs H2 F2 B2 A2 p2 => ?_⟩⟩
          exact q _ H2 F2 B2 _ (pss_cons p1 p2 hc)
        · exact pa_bot fun σ H Q => tRs_none
      · exact pa_bot fun σ H Q => tRs_none
    · exact pa_bot fun σ H Q => tRs_none
theorem sk_nil : SK W .nil := by
  intro r X sc sc0 kn kws g h
  simp only [Wd.mtk, mtk, Bool.and_eq_true, List.isEmpty_iff] at h
  obtain ⟨rfl, rfl⟩ := h
  refine ⟨rfl, ⟨fun pos pins s σ H Q I q => pk_nil.run pos pins s σ H Q I ?_⟩⟩
  simp only [Wd.evs, evs] at q
  obtain ⟨F, B, s, q⟩ := tRs_mk q
  exact q [] H F B [] (pss_nil s)
theorem sk_cons {a s : T} (ha : SE W a) (hs : SK W s) : SK W (.cons a s) := by
  intro r X sc sc0 kn kws g h
  simp only [Wd.mtk, mtk] at h
  split at h <;> try (cases h; done)
  rename_i k ks x e kpos kws
  simp only [Bool.and_eq_true, decide_eq_true_eq] at h
  obtain ⟨⟨rfl, he⟩, hr⟩ := h
  have hi := mt_noino he
  rw [inos_cons hi, evs_cons hi]
  obtain ⟨hk, _⟩ := hs r X sc sc0 ks kws g hr
  refine ⟨by simp [hk], ?_⟩
  split
  · rename_i o r1 ea
    obtain ⟨_, pk⟩ := hs r1 X sc sc0 ks kws g hr
    split
    · rename_i os r2 eb
      split
      · rename_i hc
        refine ⟨fun pos pins s σ H Q I q => (pk_cons (ha true r X sc sc0 e g he) pk).run pos pins s σ H Q I ?_⟩
        obtain ⟨F, B, s, q⟩ := tRs_mk q
        refine ⟨F, B, o, r1, s, ea, fun v H1 F1 B1 A1 p1 => ⟨F1, B1, os, r2, p1.st, eb, fun vs H2 F2 B2 A2 p2 => ?_⟩⟩
        exact q _ H2 F2 B2 _ (pss_cons p1 p2 hc)
      · exact ⟨fun pos pins s σ H Q I q => (tRs_none q).elim⟩
    · exact ⟨fun pos pins s σ H Q I q => (tRs_none q).elim⟩
  · exact ⟨fun pos pins s σ H Q I q => (tRs_none q).elim⟩
end
end Mi

end
section
set_option maxHeartbeats 2000000
/-! MiR: [::-1] of a tuple, too. -/
namespace MiR
open PySem PySem.Spec PyProof.Rows L2 HT
section
variable {prog : Program} {w : World} {A : Around} {E : Value → Shared → Prop} {s : Shared}
theorem sliceApplied_rev {sl : Addr} {vl vu vs : Value} {n : Nat} {Q : Int × Int × Nat → Shared → Prop} (hs : s.heap.IsSliceOf sl vl vu vs) (pl : IsPart vl none) (pu : IsPart vu none) (ps : IsPart vs (some (-1)))
    (h : Q ((n : Int) - 1, -1, n) s) : wpAny (model prog w) A (Builtin.Slice.sliceApplied (.ref sl) (pure (n : Int))) Q E s := by
  obtain ⟨os, hos, hcs, hds⟩ := id hs
  unfold Builtin.Slice.sliceApplied Builtin.Slice.sliceFields
  refine wpAny_bind (wpAny_bind (wpAny_field hos hds (x := vl) rfl (wpAny_bind (wpAny_field hos hds (x := vu) rfl (wpAny_bind (wpAny_field hos hds (x := vs) rfl (wpAny_pure ?_)))))))
  refine wpAny_bind (slicePart_ ps ?_)
  show wpAny _ _ (if ((-1 : Int) == 0) = true then _ else _) _ _ s
  rw [if_neg (by decide)]
  refine wpAny_bind (slicePart_ pl (wpAny_bind (slicePart_ pu (wpAny_bind (wpAny_pure ?_)))))
  have e1 : Builtin.Slice.sliceAdjust none none (-1) (n : Int) = ((n : Int) - 1, -1) := rfl
  have e2 : Builtin.Slice.slicePlaces ((n : Int) - 1) (-1) (-1) = n := by
    unfold Builtin.Slice.slicePlaces
    rw [if_neg (by decide)]
    by_cases hn : n = 0
    · subst hn; rfl
    · rw [if_pos (by omega), show (- -1 : Int) = 1 from rfl, Int.ediv_one]
      omega
  show wpAny _ _ (match Builtin.Slice.sliceAdjust none none (-1) (n : Int) with | (lo, hi) => pure (lo, (-1 : Int), Builtin.Slice.slicePlaces lo hi (-1))) _ _ s
  rw [e1]
  show wpAny _ _ (pure ((n : Int) - 1, (-1 : Int), Builtin.Slice.slicePlaces ((n : Int) - 1) (-1) (-1))) _ _ s
  rw [e2]
  exact wpAny_pure h
theorem fm_congr {α β : Type} {f g : α → Option β} : ∀ {l : List α}, (∀ x ∈ l, f x = g x) → l.filterMap f = l.filterMap g
  | [], _ => rfl
  | a :: l, h => by rw [List.filterMap_cons, List.filterMap_cons, h a (by simp), fm_congr (l := l) fun x hx => h x (by simp [hx])]
theorem pick_rev (xs : Array Value) : ((List.range xs.size).filterMap fun (m : Nat) => xs[((xs.size : Int) - 1 + (m : Int) * -1).toNat]?).toArray = xs.toList.reverse.toArray := by
  have e : (List.range xs.size).filterMap (fun (m : Nat) => xs[((xs.size : Int) - 1 + (m : Int) * -1).toNat]?) = ((List.range xs.size).map fun k => xs.size - 1 - k).filterMap (xs[·]?) := by
    rw [List.filterMap_map]
    refine fm_congr fun m hm => ?_
    have := List.mem_range.mp hm
    show xs[((xs.size : Int) - 1 + (m : Int) * -1).toNat]? = xs[xs.size - 1 - m]?
    congr 1
    omega
  rw [e, PySem.W.krv_range, List.filterMap_reverse, PySem.W.krv_all]
theorem getItem_tuple_rev {t sl : Addr} {items : Array Value} {vl vu vs : Value} {Q : Value → Shared → Prop} (ht : IsTup s.heap t items) (hs : s.heap.IsSliceOf sl vl vu vs) (pl : IsPart vl none) (pu : IsPart vu none) (ps : IsPart vs (some (-1)))
    (h : Q (.ref s.heap.objs.size) { s with heap := s.heap.push { cls := .type "tuple", data := .seq items.toList.reverse.toArray } })
    (hsz : items.size ≤ sizeLine) : wpAny (model prog w) A (getItem (.ref t) (.ref sl)) Q E s := by
  have htake : sizeOk (.seq items.toList.reverse.toArray) := by
    show items.toList.reverse.toArray.size ≤ sizeLine
    rw [List.size_toArray, List.length_reverse, Array.length_toList]
    exact hsz
  obtain ⟨os, hos, hcs, hds⟩ := id hs
  have hTs : s.TypeIs (.ref sl) "slice" := ⟨os, hos, hcs⟩
  unfold getItem
  try with_reducible refine wpAny_holding ?_
  first | refine wpAny_bind (wpAny_pure ?_) | skip
  refine wpAny_bind (wpAny_sequenceKey ht.typeIs (by decide) ?_)
  refine wpAny_bind (wpAny_callSpecial?_slot (name := Str.ofString "__getitem__") ht.typeIs PyProof.Rows.slot_tuple_getitem
    (wpAny_call_entry PyProof.Rows.slot_tuple_getitem ht.typeIs entry_tuple_getitem ?_ (args_tuple_getitem _ _)))
  show wpAny _ _ (Builtin.Tuple.tupleItemsOf (.ref t) >>= _) _ _ s
  refine wpAny_bind (tupleItemsOf_ ht ?_)
  refine wpAny_bind (wpAny_typeOf hTs ?_)
  rw [if_pos (by decide)]
  refine wpAny_bind (sliceApplied_rev hs pl pu ps ?_)
  have hno : ¬ ((((items.size : Int) - 1) == 0 && (-1 : Int) == 1 && items.size == items.size) = true) := by
    intro q
    rw [Bool.and_eq_true, Bool.and_eq_true] at q
    exact absurd q.1.2 (by decide)
  show wpAny _ _ (if (((items.size : Int) - 1) == 0 && (-1 : Int) == 1 && items.size == items.size) = true then _ else _) _ _ s
  rw [if_neg hno, pick_rev]
  first
    | exact wpAny_bind (m := Builtin.Tuple.tupleExact _) (wpAny_newObj_type (wpAny_pure ⟨_, rfl, wpAny_pure h⟩) htake)
    | exact wpAny_bind (m := Builtin.Tuple.tupleExact _) (wpAny_newObj_type (wpAny_bind (wpAny_pure (wpAny_pure ⟨_, rfl, wpAny_pure h⟩))) htake)
    | exact wpAny_bind (wpAny_bind (m := Builtin.Tuple.tupleExact _) (wpAny_newObj_type (wpAny_pure (wpAny_pure ⟨_, rfl, wpAny_pure h⟩)) htake))
    | exact wpAny_bind (wpAny_bind (m := Builtin.Tuple.tupleExact _) (wpAny_newObj_type (wpAny_pure ⟨_, rfl, wpAny_pure h⟩) htake))
end
section
variable {X : Cx}
def tRevA (K : PySem.W.Frag) (te : TE) : TE := fun σ H Q => te σ H fun x H1 => ∃ a xs, x = .ref a ∧ ((SqL K H1 a xs ∧ ∀ p, H1 p = none → Q (.ref p) (upd H1 p (.lst xs.reverse))) ∨ (SqT K H1 a xs ∧ ∀ p, H1 p = none → Q (.ref p) (upd H1 p (.tup xs.reverse))))
theorem pe_revA {e : Expr} {te : TE} {k : Nat} {p1 p2 p3 pos : Pos} (he : PE X e te) : PE X (.Subscript e (.Slice none none (some (.UnaryOp .USub (.Constant (.int 1) k p1) p2)) p3) pos) (tRevA X.K te) := by
  refine ⟨fun pins s σ H Q I h => ?_⟩
  refine Subscript_ (thn (he.run pins s σ H _ I h) fun v s1 ⟨x, H1, I1, r1, q1⟩ => ?_)
  obtain ⟨a, xs, ex, hx⟩ := q1
  subst ex
  cases r1
  have hst : PO X (some (.UnaryOp .USub (.Constant (.int 1) k p1) p2)) (tPart (tUn (rU fun i => .int (-i)) (tC (.int 1)))) := po_some (pe_un un_neg pe_int)
  refine wpAny_Slice (thn (po_none.run pins s1 σ H1 (fun o H2 => o = none ∧ H2 = H1) I1 ⟨rfl, rfl⟩) fun vl s2 ⟨l, H2, I2, pl, el, e2⟩ => ?_)
  subst el e2
  refine thn (po_none.run pins s2 σ H2 (fun o H3 => o = none ∧ H3 = H2) I2 ⟨rfl, rfl⟩) fun vu s3 ⟨u, H3, I3, pu, eu, e3⟩ => ?_
  subst eu e3
  refine thn (hst.run pins s3 σ H3 (fun o H4 => o = some (-1) ∧ H4 = H3) I3 ⟨1, rfl, -1, rfl, rfl, rfl⟩) fun vs s4 ⟨o, H4, I4, ps, eo, e4⟩ => ?_
  subst eo e4
  have I5 : Inv X pins σ H4 { s4 with heap := s4.heap.push { cls := .type "slice", data := .fields #[vl, vu, vs] } } := I4.kept (t' := s4.toks) fun b ob q => Heap.get?_push_of_some _ q
  show wpAny (model X.prog X.w) X.A (subscriptTail e (.Slice none none (some (.UnaryOp .USub (.Constant (.int 1) k p1) p2)) p3) (.ref a) (.ref s4.heap.objs.size)) (EP X pins σ Q) X.xe { s4 with heap := s4.heap.push { cls := .type "slice", data := .fields #[vl, vu, vs] } }
  rcases hx with ⟨hx, q⟩ | ⟨hx, q⟩
  · obtain ⟨its, r, ht, hz⟩ := I5.list hx
    have hlen := r.length
    refine tail_any (ops := [.ref a, .ref s4.heap.objs.size]) ht.isList.typeIs (PySem.slot_list_getitem.lookup) ?_ (by with_unfolding_all rfl)
    refine wpAny_getItem_list_slice ht.isList (Heap.IsSliceOf.new _ vl vu vs) pl pu ps (by decide) ?_ (by rw [List.size_toArray]; omega)
    rw [PySem.W.krv_pick]
    refine ⟨.ref _, _, I5.laid (t' := s4.toks) (o := .lst xs.reverse) (fun b ob q => Heap.get?_push_of_some _ q) (Nat.le_refl _) ?_, rfl, q _ (I5.hok.fresh (Nat.le_refl _))⟩
    exact ⟨by rw [List.length_reverse]; exact hz, _, 0, r.reverse, Heap.get?_push_size _ rfl⟩
  · obtain ⟨its, r, ht, hz⟩ := I5.tuple hx
    have hlen := r.length
    refine tail_any (ops := [.ref a, .ref s4.heap.objs.size]) ht.typeIs PyProof.Rows.slot_tuple_getitem.lookup ?_ (by with_unfolding_all rfl)
    refine getItem_tuple_rev ht (Heap.IsSliceOf.new _ vl vu vs) pl pu ps ?_ (by rw [List.size_toArray]; omega)
    refine ⟨.ref _, _, I5.laid (t' := s4.toks) (o := .tup xs.reverse) (fun b ob q => Heap.get?_push_of_some _ q) (Nat.le_refl _) ?_, rfl, q _ (I5.hok.fresh (Nat.le_refl _))⟩
    exact ⟨by rw [List.length_reverse]; exact hz, _, r.reverse, IsTup.new _ _⟩
end
end MiR

end
section
set_option maxHeartbeats 2000000
/-! Mi21: displays, places, slices, built-ins. -/
namespace Mi
open PySem L2
section
variable {W : Wd} {K : PySem.W.Frag} {L : Nat → Addr → Prop} {F F1 F2 : Fz} {H H1 H2 : Hp} {r r1 r2 : En} {σ : St} {B B1 B2 A1 A2 : List Addr}
theorem se_lst {as : T} (ha : SA W as) : SE W (.lst as) := by
  intro m r X sc sc0 e g h
  simp only [Wd.mt, mt] at h
  split at h <;> try (cases h; done)
  rename_i es pos
  obtain ⟨_, _, pa⟩ := ha true r X sc sc0 es g h
  simp only [Wd.ev, ev]
  by_cases hn : (inos as).all (·.isNone) = true
  · rw [if_pos hn]
    split
    · rename_i os r1 ea
      split
      · rename_i hz
        rw [not_pl (t := .lst as) rfl]
        refine pe_wk (pe_lst pa) fun σ H Q q => ?_
        obtain ⟨F, B, s, q⟩ := tR_mk q
        refine ⟨F, B, _, _, s, ea, fun vs H1 F1 B1 A p => ?_⟩
        have ro := roi_rol hn p.ro
        obtain ⟨f1, f2, f3⟩ := p.fr rfl
        cases m with
        | true => exact ⟨by rw [rol_len ro]; exact hz, fun x hx => q _ _ F1 B1 _ (Ps.list p.tr p.st ro hx f1 f2 f3 fun hq => ⟨(p.qt hq).1, (p.qt hq).2 rfl⟩)⟩
        | false =>
          obtain ⟨F2, A2, t2, s2, ro2, g1, g2, g3, _⟩ := fz_row p.tr p.st ro f1 f2 f3
          exact ⟨by rw [rol_len ro]; exact hz, fun x hx => q _ _ F2 B1 _ (Ps.list t2 s2 ro2 hx g1 g2 (fun a ha => f3 a (g3 a ha)) fun hq => ⟨(p.qt hq).1, fun a ha => (p.qt hq).2 rfl a (g3 a ha)⟩)⟩
      · exact pe_bot fun σ H Q => tR_none
    · exact pe_bot fun σ H Q => tR_none
  · rw [if_neg hn]
    exact pe_bot fun σ H Q => tR_none
theorem se_tup {as : T} (ha : SA W as) : SE W (.tup as) := by
  intro m r X sc sc0 e g h
  simp only [Wd.mt, mt] at h
  split at h <;> try (cases h; done)
  rename_i es k pos
  obtain ⟨_, _, pa⟩ := ha true r X sc sc0 es g h
  simp only [Wd.ev, ev]
  rw [not_pl (t := .tup as) rfl]
  by_cases hn : (inos as).all (·.isNone) = true
  · rw [if_pos hn]
    split
    · rename_i os r1 ea
      split
      · rename_i ds ed
        split
        · rename_i hz
          refine pe_wk (pe_tup pa) fun σ H Q q => ?_
          obtain ⟨F, B, s, q⟩ := tR_mk q
          refine ⟨F, B, _, _, s, ea, fun vs H1 F1 B1 A p => ?_⟩
          have ro := roi_rol hn p.ro
          obtain ⟨rp, rfl⟩ := rol_vals ro ed
          exact ⟨by rw [rpl_len rp]; exact hz, fun x hx => q _ _ F1 B1 _ (Ps.tuplev p.tr p.st rp hx fun hq => (p.qt hq).1)⟩
        · exact pe_bot fun σ H Q => tR_none
      · split
        · rename_i hz
          refine pe_wk (pe_tup pa) fun σ H Q q => ?_
          obtain ⟨F, B, s, q⟩ := tR_mk q
          refine ⟨F, B, _, _, s, ea, fun vs H1 F1 B1 A p => ?_⟩
          have ro := roi_rol hn p.ro
          obtain ⟨f1, f2, f3⟩ := p.fr rfl
          exact ⟨by rw [rol_len ro]; exact hz, fun x hx => q _ _ F1 B1 _ (Ps.tuple p.tr p.st ro hx f1 f2 f3 fun hq => ⟨(p.qt hq).1, (p.qt hq).2 rfl⟩)⟩
        · exact pe_bot fun σ H Q => tR_none
    · exact pe_bot fun σ H Q => tR_none
  · rw [if_neg hn]
    exact pe_bot fun σ H Q => tR_none
theorem snd_idx {a b : T} (ha : SE W a) (hb : SE W b) : SE W (.idx a b) := by
  intro m r X sc sc0 e g h
  simp only [Wd.mt, mt] at h
  split at h <;> try (cases h; done)
  rename_i x y pos
  simp only [Bool.and_eq_true] at h
  obtain ⟨hx, hy⟩ := h
  simp only [Wd.ev, ev]
  split
  · rename_i xo r1 ea
    split
    · rename_i k eb
      by_cases hp : (!m && a.isPl) = true
      · rw [if_pos hp] at eb
        have hm : m = false := by simp only [Bool.and_eq_true, Bool.not_eq_true'] at hp; exact hp.1
        have hap : a.isPl = true := by simp only [Bool.and_eq_true] at hp; exact hp.2
        subst hm
        cases ec : xo.child k with
        | none => exact pe_bot fun σ H Q => tR_none
        | some c =>
          obtain ⟨R, hR, hq⟩ := child_ok (L := W.L) (X := X) xo c k ec rfl
          have pb := ss b r1 y g hy
          rw [eb] at pb
          refine pe_wk (pe_ix hR (ha false r X sc sc0 x g hx) pb (plainIx hy)) fun σ H Q q => ?_
          obtain ⟨F, B, s, q⟩ := tR_mk q
          refine ⟨F, B, _, _, s, ea, fun v1 H1 F1 B1 A1 p1 => ⟨F1, B1, _, p1.st, rfl, fun v2 H2 A2 g2 o2 i2 => ?_⟩⟩
          have e2 := ro_rp o2
          simp only [Rp] at e2
          subst e2
          refine hq F1 H2 v1 A1 (p1.ro.grows g2) Q fun w A' o3 i3 => q w H2 F1 B1 A' ?_
          have hin := p1.inb (by rw [hap]; rfl)
          refine ⟨p1.tr.trans (Tr.same g2), p1.st.same g2, o3, fun hh => ?_, fun _ a ha => hin a (i3 a ha), fun hh => ⟨fun a u e => g2 a u ((p1.qt ?_).1 a u e), fun hh2 => ?_⟩⟩
          · rw [T.isPl, hap] at hh; cases hh
          · rw [T.qt, Bool.and_eq_true] at hh; exact hh.1
          · rw [T.isPl, hap] at hh2; cases hh2
      · rw [if_neg hp] at eb
        cases eb
    · split
      · rename_i k r2 eb
        split
        · rename_i hc
          split
          · rename_i o ec
            split
            · rename_i hv
              obtain ⟨R, hR, hq⟩ := child_ok (L := W.L) (X := X) xo o k ec rfl
              refine pe_wk (pe_ix hR (ha false r X sc sc0 x g hx) (hb false r1 X sc sc0 y g hy) (plainIx hy)) fun σ H Q q => ?_
              obtain ⟨F, B, s, q⟩ := tR_mk q
              refine two_ok hc s ea eb fun v1 v2 H2 F2 B2 A1 A2 t s2 o1 o2 kq => ?_
              have e2 := ro_rp o2
              simp only [Rp] at e2
              subst e2
              refine hq F2 H2 v1 A1 o1 Q fun w A' o3 i3 => q w H2 F2 B2 A' ?_
              have hA := RO.isVal o3 hv
              subst hA
              exact ⟨t, s2, o3, fun _ => ⟨by simpa using s2.nd, by simp, by simp⟩, fun _ => by simp, fun hh => ⟨kq (by rw [T.qt, Bool.and_eq_true] at hh; exact hh.1) (by rw [T.qt, Bool.and_eq_true] at hh; exact hh.2), fun _ => by simp⟩⟩
            · exact pe_bot fun σ H Q => tR_none
          · exact pe_bot fun σ H Q => tR_none
        · rename_i hc
          split
          · rename_i x2 e2
            split
            · rename_i o ec
              split
              · rename_i hv
                cases a with
                | var i =>
                  simp only [slo] at e2
                  have er : r1 = r := by
                    simp only [ev, Option.map_eq_some_iff, Prod.mk.injEq] at ea
                    obtain ⟨_, _, _, h⟩ := ea
                    exact h.symm
                  subst er
                  obtain ⟨R, hR, hq⟩ := child_ok (L := W.L) (X := X) x2 o k ec rfl
                  refine pe_wk (pe_ix hR (se_var false i r1 x g hx) (hb false r1 X sc sc0 y g hy) (plainIx hy)) fun σ H Q q => ?_
                  obtain ⟨F, B, s, q⟩ := tR_mk q
                  have hg : ge r1 i = some xo := by
                    simp only [ev, Option.map_eq_some_iff, Prod.mk.injEq] at ea
                    obtain ⟨_, h, h2, _⟩ := ea
                    rw [h, h2]
                  obtain ⟨v, A, g1, _, _⟩ := s.ge hg
                  refine ⟨v, g1, F, B, _, _, s, eb, fun v2 H2 F2 B2 A2 p2 => ?_⟩
                  obtain ⟨v', A', g2, ro, _⟩ := p2.st.ge e2
                  rw [g1] at g2
                  cases g2
                  have ev2 := ro_rp p2.ro
                  simp only [Rp] at ev2
                  subst ev2
                  refine hq F2 H2 v A' ro Q fun w A3 o3 i3 => q w H2 F2 B2 A3 ?_
                  have hA := RO.isVal o3 hv
                  subst hA
                  refine ⟨p2.tr, p2.st, o3, fun _ => ⟨by simpa using p2.st.nd, by simp, by simp⟩, fun _ => by simp, fun hh => ?_⟩
                  rw [T.qt, Bool.and_eq_true] at hh
                  exact ⟨(p2.qt hh.2).1, fun _ => by simp⟩
                | _ => cases e2
              · exact pe_bot fun σ H Q => tR_none
            · exact pe_bot fun σ H Q => tR_none
          · exact pe_bot fun σ H Q => tR_none
      · exact pe_bot fun σ H Q => tR_none
  · exact pe_bot fun σ H Q => tR_none
/-- a slice's part -/
def tPt (K : PySem.W.Frag) (L : Nat → Addr → Prop) (q : Bool) (r : En) (res : Option (Option Int × En)) : TO := fun σ H Q => ∃ F B p r', Stt K L F H r σ B ∧ res = some (p, r') ∧
  ∀ H' F' B', Tr F B H F' B' H' → Stt K L F' H' r' σ B' → (q = true → ∀ a u, H a = some u → H' a = some u) → Q p H'
theorem part_ok {lo : T} (hl : SE W lo) {l : Option Expr} {X : Cx} {sc sc0 : Scope} (g : W.G X sc sc0) (h : prtB lo (fun u => Mi.mt X.N W.nm W.fr W.gl W.kwt sc lo u) l = true) (r : En) :
    PO X l (tPt X.K W.L lo.qt r (prtE lo r (W.ev false lo r))) := by
  cases l with
  | none =>
    simp only [prtB] at h
    unfold prtE
    rw [if_pos h]
    refine ⟨fun pins s σ H Q I q => po_none.run pins s σ H Q I ?_⟩
    obtain ⟨F, B, p, r', s', e, q⟩ := q
    cases e
    exact q H F B Tr.refl s' fun _ => rd_refl
  | some e =>
    have hne : lo.isNil = false := by
      cases lo
      case nil => exact Bool.noConfusion (show false = true from h)
      all_goals rfl
    unfold prtE
    rw [hne, if_neg (by decide)]
    refine ⟨fun pins s σ H Q I q => (po_some (hl false r X sc sc0 e g h)).run pins s σ H Q I ?_⟩
    obtain ⟨F, B, p, r', s', e', q⟩ := q
    cases ee : W.ev false lo r with
    | none => rw [ee] at e'; cases e'
    | some y =>
      obtain ⟨o, r1⟩ := y
      rw [ee] at e'
      cases o with
      | val d =>
        cases d with
        | int i =>
          simp only [part, Option.some.injEq, Prod.mk.injEq] at e'
          obtain ⟨rfl, rfl⟩ := e'
          exact ⟨F, B, _, _, s', rfl, fun v H' F' B' A p => ⟨i, p.int, q H' F' B' p.tr p.st p.quiet⟩⟩
        | _ => cases e'
      | _ => cases e'
theorem snd_slc {a lo hi : T} (ha : SE W a) (hl : SE W lo) (hh : SE W hi) : SE W (.slc a lo hi) := by
  intro m r X sc sc0 e g h
  simp only [Wd.mt, mt] at h
  split at h <;> try (cases h; done)
  rename_i x l u p2 pos
  rw [Bool.and_eq_true, Bool.and_eq_true] at h
  obtain ⟨⟨hx, h1⟩, h2⟩ := h
  simp only [Wd.ev, ev]
  rw [not_pl (t := .slc a lo hi) rfl]
  split
  · rename_i xo r1 ea
    have p1 := part_ok hl g h1 r1
    split
    · rename_i pl r2 el
      have p2 := part_ok hh g h2 r2
      split
      · rename_i ph r3 eh
        split
        · rename_i hc
          cases ec : cutO pl ph xo with
          | none => exact pe_bot fun σ H Q => tR_none
          | some res =>
            obtain ⟨R, hR, hq⟩ := cut_ok (L := W.L) (X := X) xo res pl ph ec rfl
            refine pe_wk (pe_slice hR (ha false r X sc sc0 x g hx) p1 p2) fun σ H Q q => ?_
            obtain ⟨F, B, s, q⟩ := tR_mk q
            refine ⟨F, B, _, _, s, ea, fun v1 H1 F1 B1 A1 q1 => ⟨F1, B1, _, _, q1.st, el, fun H2 F2 B2 t2 s2 k2 => ⟨F2, B2, _, _, s2, eh, fun H3 F3 B3 t3 s3 k3 => ?_⟩⟩⟩
            have ro := q1.carry (ns := []) (os := []) (vs := []) (sq := lo.qt && hi.qt) (t2.trans t3) (quiet2 k2 k3) (by simpa using hc)
            refine hq F3 H3 v1 A1 ro Q fun w H' nw => ?_
            obtain ⟨A, p⟩ := nw.ps (q := (T.slc a lo hi).qt) (B := B) (r1 := r3) ((q1.tr.trans t2).trans t3) s3 (fun hq => by
              rw [T.qt] at hq
              exact quiet2 (quiet2 q1.quiet k2) k3 hq)
            exact q w H' F3 B3 A p
        · exact pe_bot fun σ H Q => tR_none
      · exact pe_bot fun σ H Q => tR_none
    · exact pe_bot fun σ H Q => tR_none
  · exact pe_bot fun σ H Q => tR_none
theorem snd_rev {a : T} (ha : SE W a) : SE W (.rev a) := by
  intro m r X sc sc0 e g h
  simp only [Wd.mt, mt] at h
  split at h <;> try (cases h; done)
  rename_i x k q1 q2 q3 q4
  simp only [Wd.ev, ev]
  rw [not_pl (t := .rev a) rfl]
  split
  · rename_i xo r1 ea
    cases er : revO xo with
    | none => exact pe_bot fun σ H Q => tR_none
    | some res =>
      refine pe_wk (MiR.pe_revA (ha false r X sc sc0 x g h)) fun σ H Q q => ?_
      obtain ⟨F, B, s, q⟩ := tR_mk q
      refine ⟨F, B, _, _, s, ea, fun v H1 F1 B1 A p => ?_⟩
      have key : (∃ ds p xs, res = .lst (ds.reverse.map O.val) ∧ v = .ref p ∧ SqL X.K H1 p xs ∧ RpL X.K F1 H1 ds xs) ∨ ∃ ds p xs, res = .val (.tuple ds.reverse) ∧ v = .ref p ∧ SqT X.K H1 p xs ∧ RpL X.K F1 H1 ds xs := by
        cases xo with
        | val d =>
          cases d with
          | list ds =>
            simp only [revO, Option.some.injEq] at er
            have := ro_rp p.ro
            simp only [Rp] at this
            obtain ⟨a, xs, rfl, e1, _, e2⟩ := this
            exact .inl ⟨ds, a, xs, er.symm, rfl, SqL.of e1, e2⟩
          | tuple ds =>
            simp only [revO, Option.some.injEq] at er
            have := ro_rp p.ro
            simp only [Rp] at this
            obtain ⟨a, xs, rfl, e1, e2⟩ := this
            exact .inr ⟨ds, a, xs, er.symm, rfl, e1, e2⟩
          | _ => cases er
        | lst os =>
          simp only [revO, Option.map_eq_some_iff] at er
          obtain ⟨ds, e1, rfl⟩ := er
          have ro := p.ro
          simp only [RO] at ro
          obtain ⟨a, xs, A1, rfl, h1, h2, _⟩ := ro
          exact .inl ⟨ds, a, xs, rfl, rfl, SqL.of h1, (rol_vals h2 e1).1⟩
        | _ => cases er
      rcases key with ⟨ds, p0, xs, rfl, rfl, h1, h2⟩ | ⟨ds, p0, xs, rfl, rfl, h1, h2⟩
      · exact ⟨p0, xs, rfl, .inl ⟨h1, fun y hy => q _ _ F1 B1 _ (Ps.listv p.tr p.st (rpl_rev h2) hy p.quiet)⟩⟩
      · exact ⟨p0, xs, rfl, .inr ⟨h1, fun y hy => q _ _ F1 B1 _ (Ps.tuplev p.tr p.st (rpl_rev h2) hy p.quiet)⟩⟩
  · exact pe_bot fun σ H Q => tR_none
theorem snd_bi {b : Bi} {as : T} (ha : SA W as) : SE W (.bi b as) := by
  intro m r X sc sc0 e g h
  simp only [Wd.mt, mt] at h
  split at h <;> try (cases h; done)
  rename_i x p es pos
  simp only [Bool.and_eq_true, decide_eq_true_eq] at h
  obtain ⟨⟨⟨⟨⟨h1, h2⟩, h3⟩, h4⟩, h5⟩, h6⟩ := h
  obtain ⟨hp, _, pa⟩ := ha false r X sc sc0 es g h5
  simp only [Wd.ev, ev]
  rw [not_pl (t := .bi b as) rfl]
  cases es with
  | nil => exfalso; cases b <;> cases h6
  | cons e0 es =>
    split
    · rename_i os r1 ea
      cases ec : biE b os with
      | none => exact pe_bot fun σ H Q => tR_none
      | some res =>
        obtain ⟨R, hR, hq⟩ := bi_call (L := W.L) (X := X) g.calm g.gu (room80 g.room) b os res ec rfl
        refine pe_wk (bltE hR (gl_of g.sc h2) (g.frs _ (by simpa using h4)) h1 pa hp h3) fun σ H Q q => ?_
        obtain ⟨F, B, s, q⟩ := tR_mk q
        refine ⟨F, B, _, _, s, ea, fun vs H1 F1 B1 A p => ?_⟩
        refine hq F1 H1 vs A (roi_rol (evs_noino ea) p.ro) Q fun w H' nw => ?_
        obtain ⟨A', p'⟩ := nw.ps (q := as.qt) (B := B) (r1 := r1) p.tr p.st fun hq => (p.qt hq).1
        exact q w H' F1 B1 A' p'
    · exact pe_bot fun σ H Q => tR_none
theorem rgI_v {F : Fz} {H : Hp} {K : PySem.W.Frag} (a b : Int) : RpL K F H (rngI a b 1) (rgV a b) := by
  unfold rngI rgV
  rw [if_pos rfl]
  have : ∀ l : List Nat, RpL K F H (l.map fun i => PyData.int (a + (i : Nat))) (l.map fun i => V.int (a + (i : Nat))) := by
    intro l
    induction l with
    | nil => simp [RpL]
    | cons x xs ih => simp only [List.map_cons, RpL, Rp]; exact ⟨_, _, rfl, rfl, ih⟩
  exact this _
theorem lrngE_ok {a b : Int} {o : O} (h : lrngE a b = some o) : RgOk a b ∧ o = .lst ((rngI a b 1).map O.val) := by
  unfold lrngE at h
  split at h
  · rename_i hc
    simp only [Option.some.injEq] at h
    simp only [small, Bool.and_eq_true, decide_eq_true_eq] at hc
    exact ⟨⟨hc.1.1.1, hc.1.1.2, hc.1.2.1, hc.1.2.2, hc.2⟩, h.symm⟩
  · cases h
theorem snd_lrg {a : T} (ha : SE W a) : SE W (.lrg a) := by
  intro m r X sc sc0 e g h
  simp only [Wd.mt, mt] at h
  split at h <;> try (cases h; done)
  rename_i x p y p' u q1 q2
  simp only [Bool.and_eq_true, decide_eq_true_eq] at h
  obtain ⟨⟨⟨⟨⟨⟨⟨⟨rfl, h2⟩, h3⟩, h4⟩, rfl⟩, h6⟩, h7⟩, h8⟩, hu⟩ := h
  simp only [Wd.ev, ev]
  rw [not_pl (t := .lrg a) rfl]
  split
  · rename_i k r1 ea
    cases ec : lrngE 0 k with
    | none => exact pe_bot fun σ H Q => tR_none
    | some res =>
      obtain ⟨ok, rfl⟩ := lrngE_ok ec
      refine pe_wk (pe_listRg g.calm (gl_of g.sc h2) (g.frs _ (by simpa using h4)) (prg_1 (gl_of g.sc h6) (g.frs _ (by simpa using h8)) (ha false r X sc sc0 u g hu) (starE (mt_plain hu))) (starE rfl)) fun σ H Q q => ?_
      obtain ⟨F, B, s, q⟩ := tR_mk q
      refine ⟨F, B, _, _, s, ea, fun v H1 F1 B1 A p => ⟨k, p.int, ok, fun z hz => q _ _ F1 B1 _ (Ps.listv p.tr p.st (rgI_v 0 k) hz p.quiet)⟩⟩
  · exact pe_bot fun σ H Q => tR_none
theorem snd_lrg2 {a b : T} (ha : SE W a) (hb : SE W b) : SE W (.lrg2 a b) := by
  intro m r X sc sc0 e g h
  simp only [Wd.mt, mt] at h
  split at h <;> try (cases h; done)
  rename_i x p y p' u v q1 q2
  simp only [Bool.and_eq_true, decide_eq_true_eq] at h
  obtain ⟨⟨⟨⟨⟨⟨⟨⟨⟨rfl, h2⟩, h3⟩, h4⟩, rfl⟩, h6⟩, h7⟩, h8⟩, hu⟩, hv⟩ := h
  simp only [Wd.ev, ev]
  rw [not_pl (t := .lrg2 a b) rfl]
  split
  · rename_i j r1 ea
    split
    · rename_i k r2 eb
      cases ec : lrngE j k with
      | none => exact pe_bot fun σ H Q => tR_none
      | some res =>
        obtain ⟨ok, rfl⟩ := lrngE_ok ec
        refine pe_wk (pe_listRg g.calm (gl_of g.sc h2) (g.frs _ (by simpa using h4)) (prg_2 (gl_of g.sc h6) (g.frs _ (by simpa using h8)) (ha false r X sc sc0 u g hu) (hb false r1 X sc sc0 v g hv) (starE (mt_plain hu)) (starE (mt_plain hv)) (starAll (by simp [mt_plain hv]))) (starE rfl)) fun σ H Q q => ?_
        obtain ⟨F, B, s, q⟩ := tR_mk q
        refine ⟨F, B, _, _, s, ea, fun v H1 F1 B1 A p => ⟨F1, B1, _, _, p.st, eb, fun v2 H2 F2 B2 A2 p2 => ⟨j, k, p.int, p2.int, ok, fun z hz => q _ _ F2 B2 _ (Ps.listv (p.tr.trans p2.tr) p2.st (rgI_v j k) hz (quiet2 p.quiet p2.quiet))⟩⟩⟩
    · exact pe_bot fun σ H Q => tR_none
  · exact pe_bot fun σ H Q => tR_none
end
end Mi

end
section
set_option maxHeartbeats 2000000
/-! Mi22: an owned list is written. -/
namespace Mi
open PySem L2
section
variable {W : Wd} {K : PySem.W.Frag} {L : Nat → Addr → Prop} {F F1 F2 : Fz} {H H1 H2 : Hp} {r r1 r2 : En} {σ : St} {B B1 B2 A1 A2 : List Addr}
/-- the steps from v through lists lead to w -/
def Wlk (H : Hp) : List Int → V → V → Prop
  | [], v, w => v = w
  | k :: ks, v, w => ∃ a xs x, v = .ref a ∧ H a = some (.lst xs) ∧ atI xs k = some x ∧ Wlk H ks x w
theorem Wlk.grows {ks : List Int} (g : ∀ a u, H a = some u → H1 a = some u) : ∀ {v w : V}, Wlk H ks v w → Wlk H1 ks v w := by
  induction ks with
  | nil => exact fun h => h
  | cons k ks ih =>
    rintro v w ⟨a, xs, x, rfl, h1, h2, h3⟩
    exact ⟨a, xs, x, rfl, g _ _ h1, h2, ih h3⟩
theorem Wlk.split {k : Int} : ∀ {ks : List Int} {v w : V}, Wlk H (ks ++ [k]) v w → ∃ a xs, Wlk H ks v (.ref a) ∧ H a = some (.lst xs) ∧ atI xs k = some w
  | [], v, w, h => by
    obtain ⟨a, xs, x, rfl, h1, h2, h3⟩ := h
    cases h3
    exact ⟨a, xs, rfl, h1, h2⟩
  | j :: ks, v, w, h => by
    obtain ⟨a, xs, x, rfl, h1, h2, h3⟩ := h
    obtain ⟨b, ys, g1, g2, g3⟩ := Wlk.split h3
    exact ⟨b, ys, ⟨a, xs, x, rfl, h1, h2, g1⟩, g2, g3⟩
theorem kept_upd {A : List Addr} {p : Addr} {xs : List V} {u : HO} (hp : H p = some (.lst xs)) (hf : ¬ F p) (ha : p ∉ A) : Kept A F H (upd H p u) where
  fz := fun a v h e => by
    by_cases ea : a = p
    · subst ea; exact absurd h hf
    · rw [upd_ne ea]; exact e
  tp := fun a ys e => by
    have : a ≠ p := by rintro rfl; rw [hp] at e; cases e
    rw [upd_ne this]; exact e
  fr := fun a o v e => by
    have : a ≠ p := by rintro rfl; rw [hp] at e; cases e
    rw [upd_ne this]; exact e
  ow := fun a v h e => by
    have : a ≠ p := by rintro rfl; exact ha h
    rw [upd_ne this]; exact e
/-- one of a row by itself -/
theorem rol_split : ∀ {os : List O} {xs : List V} {A : List Addr} {j : Nat} {o : O}, ROL K L F H os xs A → os[j]? = some o → ∃ x A1 Aj A2, A = A1 ++ Aj ++ A2 ∧ xs[j]? = some x ∧ RO K L F H o x Aj ∧
    (∀ (F' : Fz) (H' : Hp), (∀ a, F a → F' a) → Kept (A1 ++ A2) F H H' → ∀ o' x' Aj', RO K L F' H' o' x' Aj' → ROL K L F' H' (os.set j o') (xs.set j x') (A1 ++ Aj' ++ A2)) ∧
    ROL K L F H (os.eraseIdx j) (xs.eraseIdx j) (A1 ++ A2)
  | [], _, _, _, _, _, e => by simp at e
  | o0 :: os, _, _, 0, o, h, e => by
    simp only [ROL] at h
    obtain ⟨x, xs, A1, A2, rfl, h1, h2, rfl⟩ := h
    simp only [List.getElem?_cons_zero, Option.some.injEq] at e
    subst e
    refine ⟨x, [], A1, A2, by simp, by simp, h1, fun F' H' hF k o' x' Aj' ho => ?_, by simpa using h2⟩
    simp only [List.set_cons_zero, ROL]
    exact ⟨x', xs, Aj', A2, rfl, ho, ROL.keep hF os xs A2 (k.sub fun b hb => by simpa using hb) h2, by simp⟩
  | o0 :: os, _, _, j + 1, o, h, e => by
    simp only [ROL] at h
    obtain ⟨x, xs, A1, A2, rfl, h1, h2, rfl⟩ := h
    simp only [List.getElem?_cons_succ] at e
    obtain ⟨y, C1, Cj, C2, rfl, g1, g2, g3, g4⟩ := rol_split h2 e
    refine ⟨y, A1 ++ C1, Cj, C2, by simp, by simpa using g1, g2, fun F' H' hF k o' x' Aj' ho => ?_, ?_⟩
    · simp only [List.set_cons_succ, ROL]
      refine ⟨x, _, A1, _, rfl, RO.keep hF o0 x A1 (k.sub fun b hb => by simp [hb]) h1, g3 F' H' hF (k.sub fun b hb => ?_) o' x' Aj' ho, by simp⟩
      rcases List.mem_append.mp hb with hb | hb <;> simp [hb]
    · simp only [List.eraseIdx_cons_succ, ROL]
      exact ⟨x, _, A1, _, rfl, h1, g4, by simp⟩
theorem upd_ro (f : O → Option O) (hfl : ∀ o o', f o = some o' → ∃ os, o = .lst os) : ∀ (ks : List Int) (o o' : O) (v : V) (A : List Addr), RO K L F H o v A → A.Nodup → (∀ a ∈ A, ¬ F a) → O.updAt f ks o = some o' →
    ∃ p os xs A1 pre post o1, A = pre ++ (p :: A1) ++ post ∧ Wlk H ks v (.ref p) ∧ H p = some (.lst xs) ∧ ROL K L F H os xs A1 ∧ f (.lst os) = some o1 ∧
      ∀ ys os' A1', o1 = .lst os' → ROL K L F (upd H p (.lst ys)) os' ys A1' → RO K L F (upd H p (.lst ys)) o' v (pre ++ (p :: A1') ++ post)
  | [], o, o', v, A, h, hn, hF, e => by
    simp only [O.updAt] at e
    obtain ⟨os, rfl⟩ := hfl _ _ e
    simp only [RO] at h
    obtain ⟨a, xs, A1, rfl, h1, h2, rfl⟩ := h
    refine ⟨a, os, xs, A1, [], [], o', by simp, rfl, h1, h2, e, fun ys os' A1' eo ho => ?_⟩
    subst eo
    simp only [RO]
    exact ⟨a, ys, A1', rfl, upd_same, ho, by simp⟩
  | k :: ks, o, o', v, A, h, hn, hF, e => by
    cases o with
    | lst os =>
      simp only [O.updAt] at e
      split at e
      · rename_i j ej
        split at e
        · rename_i oj eoj
          simp only [Option.map_eq_some_iff] at e
          obtain ⟨oj', e, rfl⟩ := e
          simp only [RO] at h
          obtain ⟨a, xs, A1, rfl, h1, h2, rfl⟩ := h
          obtain ⟨x, C1, Cj, C2, rfl, g1, g2, g3, _⟩ := rol_split h2 eoj
          have hn' := List.nodup_cons.mp hn
          have hnj : Cj.Nodup := by
            have := hn'.2
            rw [List.append_assoc, List.nodup_append] at this
            exact (List.nodup_append.mp this.2.1).1
          obtain ⟨p, os1, xs1, D1, pre, post, o1, rfl, w1, w2, w3, w4, w5⟩ := upd_ro f hfl ks oj oj' x Cj g2 hnj (fun a ha => hF a (by simp [ha])) e
          have hpm : p ∈ pre ++ (p :: D1) ++ post := by simp
          have hpa : p ≠ a := by
            rintro rfl
            exact hn'.1 (by simp)
          have hd := nodup_mid hn'.2
          refine ⟨p, os1, xs1, D1, a :: (C1 ++ pre), post ++ C2, o1, by simp, ⟨a, xs, x, rfl, h1, ?_, w1⟩, w2, w3, w4, fun ys os' A1' eo ho => ?_⟩
          · unfold atI
            rw [rol_len h2, ej]
            exact g1
          · have hr := w5 ys os' A1' eo ho
            simp only [RO]
            refine ⟨a, xs.set j x, _, rfl, ?_, g3 F (upd H p (.lst ys)) (fun _ h => h) (kept_upd w2 (hF p (by simp)) (hd.2 p hpm)) oj' x _ hr, by simp⟩
            rw [upd_ne (Ne.symm hpa)]
            have : xs.set j x = xs := by
              obtain ⟨hj, e⟩ := List.getElem?_eq_some_iff.mp g1
              rw [← e]
              exact List.set_getElem_self hj
            rw [this]
            exact h1
        · cases e
      · cases e
    | _ => simp [O.updAt] at e
/-- the owned list that the steps from a name lead to, rewritten -/
theorem stt_upd {i : Nat} {o o' : O} {ks : List Int} {f : O → Option O} (hfl : ∀ o o', f o = some o' → ∃ os, o = .lst os) (s : Stt K L F H r σ B) (eg : ge r i = some o) (e : O.updAt f ks o = some o') :
    ∃ v p os xs A1 pre post o1, σ[i]? = some (some v) ∧ B = pre ++ (p :: A1) ++ post ∧ Wlk H ks v (.ref p) ∧ H p = some (.lst xs) ∧ ROL K L F H os xs A1 ∧ f (.lst os) = some o1 ∧
      ∀ ys os' A1', o1 = .lst os' → ROL K L F (upd H p (.lst ys)) os' ys A1' → (pre ++ (p :: A1') ++ post).Nodup → (∀ a ∈ A1', ¬ F a) → Stt K L F (upd H p (.lst ys)) (r.set i (some o')) σ (pre ++ (p :: A1') ++ post) := by
  obtain ⟨B1, A, B2, rfl, g, _, k⟩ := EnvR.slot r σ B i s.env (ge_lt eg)
  obtain ⟨v, g1, g2⟩ := g _ (ge_eq eg)
  have hn := nodup_mid s.nd
  have hA : A.Nodup := by
    have := s.nd
    rw [List.append_assoc, List.nodup_append] at this
    exact (List.nodup_append.mp this.2.1).1
  obtain ⟨p, os, xs, A1, pre, post, o1, rfl, w1, w2, w3, w4, w5⟩ := upd_ro f hfl ks o o' v A g2 hA (fun a ha => s.df a (by simp [ha])) e
  refine ⟨v, p, os, xs, A1, B1 ++ pre, post ++ B2, o1, g1, by simp, w1, w2, w3, w4, fun ys os' A1' eo ho hnd hdf => ?_⟩
  have kk := (k F (upd H p (.lst ys)) (fun _ h => h) (kept_upd w2 (s.df p (by simp)) (hn.2 p (by simp)))).1 v o' _ (w5 ys os' A1' eo ho)
  rw [set_self g1] at kk
  refine ⟨by simpa using kk, hnd, fun a ha hf => ?_, fun a hf => ?_⟩
  · simp only [List.append_assoc, List.mem_append, List.mem_cons, List.cons_append] at ha
    rcases ha with ha | ha | ha | ha | ha | ha
    · exact s.df a (by simp [ha]) hf
    · exact s.df a (by simp [ha]) hf
    · exact s.df a (by simp [ha]) hf
    · exact hdf a ha hf
    · exact s.df a (by simp [ha]) hf
    · exact s.df a (by simp [ha]) hf
  · obtain ⟨u, e⟩ := s.dm a hf
    by_cases ea : a = p
    · subst ea; exact ⟨_, upd_same⟩
    · exact ⟨u, by rw [upd_ne ea]; exact e⟩
/-- what such a write does -/
theorem tr_upd {p : Addr} {u : HO} {B' : List Addr} (hp : p ∈ B) (hB : ∀ a ∈ B', a ∈ B ∨ H a = none) : Tr F B H F B' (upd H p u) where
  e1 := fun _ h => h
  e2 := fun a v e hb => by
    have : a ≠ p := by rintro rfl; exact hb hp
    rw [upd_ne this]; exact e
  e3 := fun _ h => .inl h
  nb := hB
theorem Tr.withB {B' : List Addr} (t : Tr F B H F1 B1 H1) (h : ∀ a ∈ B', a ∈ B ∨ H a = none) : Tr F B H F1 B' H1 := ⟨t.e1, t.e2, t.e3, h⟩
theorem rol_app : ∀ {os : List O} {xs : List V} {A : List Addr} {o : O} {x : V} {C : List Addr}, ROL K L F H os xs A → RO K L F H o x C → ROL K L F H (os ++ [o]) (xs ++ [x]) (A ++ C)
  | [], _, _, o, x, C, h, ho => by
    simp only [ROL] at h
    obtain ⟨rfl, rfl⟩ := h
    simp only [List.nil_append, ROL]
    exact ⟨x, [], C, [], rfl, ho, ⟨rfl, rfl⟩, by simp⟩
  | o0 :: os, _, _, o, x, C, h, ho => by
    simp only [ROL] at h
    obtain ⟨y, ys, A1, A2, rfl, h1, h2, rfl⟩ := h
    simp only [List.cons_append, ROL]
    exact ⟨y, _, A1, A2 ++ C, rfl, h1, rol_app h2 ho, by simp⟩
theorem rol_apps : ∀ {os : List O} {xs : List V} {A : List Addr} {ds : List D} {ys : List V}, ROL K L F H os xs A → RpL K F H ds ys → ROL K L F H (os ++ ds.map O.val) (xs ++ ys) A
  | [], _, _, ds, ys, h, hd => by
    simp only [ROL] at h
    obtain ⟨rfl, rfl⟩ := h
    simpa using rol_of hd
  | o0 :: os, _, _, ds, ys, h, hd => by
    simp only [ROL] at h
    obtain ⟨y, zs, A1, A2, rfl, h1, h2, rfl⟩ := h
    simp only [List.cons_append, ROL]
    exact ⟨y, _, A1, A2, rfl, h1, rol_apps h2 hd, rfl⟩
/-- o.m(e) of a list -/
theorem pe_lm {X : Cx} {id : String} {name : Str} {x e : Expr} {apos cpos : Pos} {R : V → List V → Hp → VK → Prop} {to te : TE} (slot : Slot "list" name id) (hty : typeOf (.builtin id) = pure (.type "method_descriptor")) (hm : MtR X id R) (ho : PE X x to)
    (ha : PE X e te) (hp : plainE e = true) (hline : (apos.endLine == cpos.line) = true) (hb : plBase x = true) :
    PE X (.Call (.Attribute x name apos) [e] [] cpos) (fun σ H Q => to σ H fun v H1 => tyV X.K "list" v H1 ∧ te σ H1 fun y H2 => R v [y] H2 Q) := by
  have hbase : attributeBase x name X.env (eval x X.env) = eval x X.env := by
    cases x <;> first
      | rfl
      | cases hb
  exact pe_bm PySem.F.plainAttrs_list slot hty hm ho (pa_cons ha pa_nil (starE hp)) hbase (by rw [starE hp]; rfl) hline (starE hp) rfl
theorem pe_lm0 {X : Cx} {id : String} {name : Str} {x : Expr} {apos cpos : Pos} {R : V → List V → Hp → VK → Prop} {to : TE} (slot : Slot "list" name id) (hty : typeOf (.builtin id) = pure (.type "method_descriptor")) (hm : MtR X id R) (ho : PE X x to)
    (hline : (apos.endLine == cpos.line) = true) (hb : plBase x = true) :
    PE X (.Call (.Attribute x name apos) [] [] cpos) (fun σ H Q => to σ H fun v H1 => tyV X.K "list" v H1 ∧ R v [] H1 Q) := by
  have hbase : attributeBase x name X.env (eval x X.env) = eval x X.env := by
    cases x <;> first
      | rfl
      | cases hb
  exact pe_bm0 PySem.F.plainAttrs_list slot hty hm ho hbase hline
/-! ### places -/
theorem Wlk.inj : ∀ {ks : List Int} {v w w' : V}, Wlk H ks v w → Wlk H ks v w' → w = w'
  | [], _, _, _, h, h' => h.symm.trans h'
  | k :: ks, _, _, _, ⟨a, xs, x, e, h1, h2, h3⟩, ⟨a', xs', x', e', g1, g2, g3⟩ => by
    rw [e] at e'
    cases e'
    rw [h1] at g1
    cases g1
    rw [h2] at g2
    cases g2
    exact Wlk.inj h3 g3
theorem Wlk.join {k : Int} {a : Addr} {xs : List V} {x : V} (h1 : H a = some (.lst xs)) (h2 : atI xs k = some x) : ∀ {ks : List Int} {v : V}, Wlk H ks v (.ref a) → Wlk H (ks ++ [k]) v x
  | [], _, h => ⟨a, xs, x, h, h1, h2, rfl⟩
  | j :: ks, _, ⟨b, ys, y, e, g1, g2, g3⟩ => ⟨b, ys, y, e, g1, g2, Wlk.join h1 h2 g3⟩
theorem steps_snoc {gl : List (Str × D)} {r : En} {b : T} : ∀ {ts : List T} {ks : List Int}, steps gl r (ts ++ [b]) = some ks → ∃ ks' k, steps gl r ts = some ks' ∧ evS gl r b = some (.val (.int k)) ∧ ks = ks' ++ [k]
  | [], ks, h => by
    simp only [List.nil_append, steps] at h
    split at h
    · rename_i k ks' e1 e2
      cases e2
      simp only [Option.some.injEq] at h
      subst h
      exact ⟨[], k, rfl, e1, rfl⟩
    · cases h
  | t :: ts, ks, h => by
    simp only [List.cons_append, steps] at h
    split at h
    · rename_i k ks' e1 e2
      simp only [Option.some.injEq] at h
      subst h
      obtain ⟨k1, k2, g1, g2, rfl⟩ := steps_snoc e2
      exact ⟨k :: k1, k2, by simp only [steps, e1, g1], g2, rfl⟩
    · cases h
def tPl (K : PySem.W.Frag) (L : Nat → Addr → Prop) (r : En) (i : Nat) (ks : List Int) : TE := fun σ H Q => ∃ F B v w, Stt K L F H r σ B ∧ σ[i]? = some (some v) ∧ Wlk H ks v w ∧ ∀ H', (∀ a u, H a = some u → H' a = some u) → Q w H'
theorem pl_ok {X : Cx} {sc sc0 : Scope} (g : W.G X sc sc0) (r : En) : ∀ (t : T) (i : Nat) (ts : List T) (ks : List Int) (e : Expr), path t = some (i, ts) → steps W.gl r ts = some ks → W.mt X.N sc t e = true → PE X e (tPl X.K W.L r i ks)
  | .var j, i, ts, ks, e, hp, hs, h => by
    simp only [path, Option.some.injEq, Prod.mk.injEq] at hp
    obtain ⟨rfl, rfl⟩ := hp
    simp only [steps, Option.some.injEq] at hs
    subst hs
    refine pe_wk (se_var false j r e g h) fun σ H Q q => ?_
    obtain ⟨F, B, v, w, s, e1, e2, q⟩ := q
    cases e2
    exact ⟨v, e1, q H rd_refl⟩
  | .idx a b, i, ts, ks, e, hp, hs, h => by
    simp only [Wd.mt, mt] at h
    split at h <;> try (cases h; done)
    rename_i x y pos
    simp only [Bool.and_eq_true] at h
    obtain ⟨hx, hy⟩ := h
    simp only [path] at hp
    split at hp
    · rename_i i' ts' ep
      simp only [Option.some.injEq, Prod.mk.injEq] at hp
      obtain ⟨rfl, rfl⟩ := hp
      obtain ⟨ks', k, g1, g2, rfl⟩ := steps_snoc hs
      have p1 := pl_ok g r a i' ts' ks' x ep g1 hx
      have p2 := ss b r y g hy
      rw [g2] at p2
      refine pe_wk (pe_ix ix_list p1 p2 (plainIx hy)) fun σ H Q q => ?_
      obtain ⟨F, B, v, w, s, e1, e2, q⟩ := q
      obtain ⟨a0, xs, w1, w2, w3⟩ := Wlk.split e2
      refine ⟨F, B, v, _, s, e1, w1, fun H1 k1 => ⟨F, B, _, s.same k1, rfl, fun v2 H2 A2 k2 o2 i2 => ?_⟩⟩
      have e2 := ro_rp o2
      simp only [Rp] at e2
      subst e2
      exact ⟨a0, xs, k, w, rfl, rfl, SqL.of (k2 _ _ (k1 _ _ w2)), w3, q H2 fun a u e => k2 a u (k1 a u e)⟩
    · cases hp
  | .nil, _, _, _, _, hp, _, _ => by cases hp
  | .cons _ _, _, _, _, _, hp, _, _ => by cases hp
  | .con _, _, _, _, _, hp, _, _ => by cases hp
  | .glo _, _, _, _, _, hp, _, _ => by cases hp
  | .fn _, _, _, _, _, hp, _, _ => by cases hp
  | .bin _ _ _, _, _, _, _, hp, _, _ => by cases hp
  | .not _, _, _, _, _, hp, _, _ => by cases hp
  | .neg _, _, _, _, _, hp, _, _ => by cases hp
  | .and _ _, _, _, _, _, hp, _, _ => by cases hp
  | .or _ _, _, _, _, _, hp, _, _ => by cases hp
  | .cmp _ _ _, _, _, _, _, hp, _, _ => by cases hp
  | .cmp2 _ _ _ _ _, _, _, _, _, hp, _, _ => by cases hp
  | .ife _ _ _, _, _, _, _, hp, _, _ => by cases hp
  | .tup _, _, _, _, _, hp, _, _ => by cases hp
  | .lst _, _, _, _, _, hp, _, _ => by cases hp
  | .slc _ _ _, _, _, _, _, hp, _, _ => by cases hp
  | .rev _, _, _, _, _, hp, _, _ => by cases hp
  | .lc _ _ _ _ _ _, _, _, _, _, hp, _, _ => by cases hp
  | .call _ _, _, _, _, _, hp, _, _ => by cases hp
  | .callk _ _ _ _ _, _, _, _, _, hp, _, _ => by cases hp
  | .ino _, _, _, _, _, hp, _, _ => by cases hp
  | .bi _ _, _, _, _, _, hp, _, _ => by cases hp
  | .isi _ _, _, _, _, _, hp, _, _ => by cases hp
  | .lrg _, _, _, _, _, hp, _, _ => by cases hp
  | .lrg2 _ _, _, _, _, _, hp, _, _ => by cases hp
  | .app _ _, _, _, _, _, hp, _, _ => by cases hp
  | .ext _ _, _, _, _, _, hp, _, _ => by cases hp
  | .pop _, _, _, _, _, hp, _, _ => by cases hp
  | .popi _ _, _, _, _, _, hp, _, _ => by cases hp
theorem lstF_lst : ∀ o o', lstF o = some o' → ∃ os, o = .lst os := by
  intro o o' h
  cases o <;> first
    | exact ⟨_, rfl⟩
    | cases h
theorem appF_lst (v : O) : ∀ o o', appF v o = some o' → ∃ os, o = .lst os := by
  intro o o' h
  cases o <;> first
    | exact ⟨_, rfl⟩
    | cases h
theorem extF_lst (v : List D) : ∀ o o', extF v o = some o' → ∃ os, o = .lst os := by
  intro o o' h
  cases o <;> first
    | exact ⟨_, rfl⟩
    | cases h
/-- a list's place: the text, the list -/
theorem placeL_ok {X : Cx} {sc sc0 : Scope} (g : W.G X sc sc0) {t : T} {i : Nat} {ks : List Int} {e : Expr} (hp : placeL W.gl t r = some (i, ks)) (h : W.mt X.N sc t e = true) : PE X e (tPl X.K W.L r i ks) ∧
    ∀ {K : PySem.W.Frag} {L : Nat → Addr → Prop} {F H σ B}, Stt K L F H r σ B → ∃ v p xs, σ[i]? = some (some v) ∧ Wlk H ks v (.ref p) ∧ H p = some (.lst xs) := by
  unfold placeL at hp
  split at hp
  · rename_i i' ks' e1
    split at hp
    · rename_i root e2
      split at hp
      · rename_i o' e3
        simp only [Option.some.injEq, Prod.mk.injEq] at hp
        obtain ⟨rfl, rfl⟩ := hp
        unfold place at e1
        split at e1
        · rename_i j ts e4
          simp only [Option.map_eq_some_iff, Prod.mk.injEq] at e1
          obtain ⟨ks2, e5, rfl, rfl⟩ := e1
          refine ⟨pl_ok g r t j ts ks2 e e4 e5 h, fun {K L F H σ B} s => ?_⟩
          obtain ⟨v, p, os, xs, A1, pre, post, o1, g1, _, g2, g3, _⟩ := stt_upd lstF_lst s e2 e3
          exact ⟨v, p, xs, g1, g2, g3⟩
        · cases e1
      · cases hp
    · cases hp
  · cases hp
theorem tyV_l {p : Addr} {xs : List V} (h : H p = some (.lst xs)) : tyV K "list" (.ref p) H := .inl ⟨rfl, xs, SqL.of h⟩
theorem snd_app {o a : T} (ha : SE W a) : SE W (.app o a) := by
  intro m r X sc sc0 e g h
  simp only [Wd.mt, mt] at h
  split at h <;> try (cases h; done)
  rename_i x mm apos y cpos
  simp only [Bool.and_eq_true, decide_eq_true_eq] at h
  obtain ⟨⟨⟨⟨rfl, hx⟩, hy⟩, hb⟩, hl⟩ := h
  simp only [Wd.ev, ev]
  rw [not_pl (t := .app o a) rfl]
  split
  · rename_i i ks ep
    obtain ⟨px, hpl⟩ := placeL_ok g ep hx
    by_cases hc : (ks.isEmpty || a.qt) = true
    · rw [if_pos hc]
      split
      · rename_i v r1 ea
        unfold placeU
        split
        · rename_i root er
          cases eu : O.updAt (appF v) ks root with
          | none => exact pe_bot fun σ H Q => tR_none
          | some root' =>
            refine pe_wk (pe_lm PySem.F.slot_list_append PySem.F.type_list_append mt_append px (ha true r X sc sc0 y g hy) (mt_plain hy) hl hb) fun σ H Q q => ?_
            obtain ⟨F, B, s, q⟩ := tR_mk q
            obtain ⟨v0, p, xs, e1, e2, e3⟩ := hpl s
            refine ⟨F, B, v0, _, s, e1, e2, fun H1 k1 => ⟨tyV_l (k1 _ _ e3), F, B, _, _, s.same k1, ea, fun u H2 F2 B2 A2 p2 => ?_⟩⟩
            obtain ⟨f1, f2, f3⟩ := p2.fr rfl
            obtain ⟨v0', p', os, xs', A1, pre, post, o1, g1, rfl, g2, g3, g4, g5, g6⟩ := stt_upd (appF_lst v) p2.st er eu
            have hv : v0' = v0 := by
              rw [e1] at g1
              cases g1; rfl
            subst hv
            have hpp : p' = p := by
              rcases Bool.or_eq_true _ _ ▸ hc with hk | hk
              · have := List.isEmpty_iff.mp hk
                subst this
                have : V.ref p = V.ref p' := e2.symm.trans g2
                cases this; rfl
              · have := Wlk.inj (Wlk.grows (fun a u e => p2.quiet hk a u (k1 a u e)) e2) g2
                cases this; rfl
            subst hpp
            simp only [appF] at g5
            split at g5
            · rename_i hz
              simp only [Option.some.injEq] at g5
              subst g5
              refine ⟨p', xs', u, rfl, rfl, g3, by rw [rol_len g4]; exact hz, ?_⟩
              have hpB : p' ∈ pre ++ (p' :: A1) ++ post := by simp
              have hnd := List.nodup_append.mp f1
              have hpA2 : p' ∉ A2 := fun hh => hnd.2.2 p' hpB p' hh rfl
              have dA1 := nodup_mid p2.st.nd
              have hnp : p' ∉ A1 := by
                have := hnd.1
                rw [List.append_assoc, List.nodup_append] at this
                have := (List.nodup_append.mp this.2.1).1
                exact (List.nodup_cons.mp this).1
              have kA1 : ROL X.K W.L F2 (upd H2 p' (.lst (xs' ++ [u]))) os xs' A1 := ROL.keep (fun _ h => h) os xs' A1 (kept_upd g3 (p2.st.df p' hpB) hnp) g4
              have kA2 : RO X.K W.L F2 (upd H2 p' (.lst (xs' ++ [u]))) v u A2 := RO.keep (fun _ h => h) v u A2 (kept_upd g3 (p2.st.df p' hpB) hpA2) p2.ro
              have st := g6 (xs' ++ [u]) _ (A1 ++ A2) rfl (rol_app kA1 kA2) (by
                have hA : (pre ++ (p' :: (A1 ++ A2)) ++ post).Perm (pre ++ (p' :: A1) ++ post ++ A2) := by
                  simp only [List.append_assoc, List.cons_append]
                  refine List.Perm.append_left _ (List.Perm.cons _ (List.Perm.append_left _ ?_))
                  exact List.perm_append_comm
                exact hA.nodup_iff.mpr f1) (fun a ha hf => by
                rcases List.mem_append.mp ha with ha | ha
                · exact p2.st.df a (by simp [ha]) hf
                · exact f2 a ha hf)
              have t := (((Tr.same k1).trans p2.tr).trans (tr_upd (u := .lst (xs' ++ [u])) hpB (fun a ha => .inl ha)))
              refine q _ _ F2 _ [] (Ps.plain (t.withB fun a ha => ?_) st rfl fun hh => nomatch hh)
              simp only [List.append_assoc, List.mem_append, List.mem_cons, List.cons_append] at ha
              rcases ha with ha | ha | ha | ha | ha
              · exact t.nb a (by simp [ha])
              · exact t.nb a (by simp [ha])
              · exact t.nb a (by simp [ha])
              · rcases f3 a ha with hh | hh
                · exact .inl hh
                · exact (Tr.same (F := F) (B := B) k1).none_of hh
              · exact t.nb a (by simp [ha])
            · cases g5
        · exact pe_bot fun σ H Q => tR_none
      · exact pe_bot fun σ H Q => tR_none
    · rw [if_neg hc]
      exact pe_bot fun σ H Q => tR_none
  · exact pe_bot fun σ H Q => tR_none
theorem mem_mid {p a : Addr} {pre post A1 : List Addr} (ha : a ∈ pre ++ (p :: A1) ++ post) {A1' : List Addr} (h : a ∈ A1 → a ∈ A1') : a ∈ pre ++ (p :: A1') ++ post := by
  simp only [List.append_assoc, List.mem_append, List.mem_cons, List.cons_append] at ha ⊢
  rcases ha with ha | ha | ha | ha
  · exact .inl ha
  · exact .inr (.inl ha)
  · exact .inr (.inr (.inl (h ha)))
  · exact .inr (.inr (.inr ha))
theorem snd_ext {o a : T} (ha : SE W a) : SE W (.ext o a) := by
  intro m r X sc sc0 e g h
  simp only [Wd.mt, mt] at h
  split at h <;> try (cases h; done)
  rename_i x mm apos y cpos
  simp only [Bool.and_eq_true, decide_eq_true_eq] at h
  obtain ⟨⟨⟨⟨rfl, hx⟩, hy⟩, hb⟩, hl⟩ := h
  simp only [Wd.ev, ev]
  rw [not_pl (t := .ext o a) rfl]
  split
  · rename_i i ks ep
    obtain ⟨px, hpl⟩ := placeL_ok g ep hx
    by_cases hc : (ks.isEmpty || a.qt) = true
    · rw [if_pos hc]
      split
      · rename_i xo r1 ea
        split
        · rename_i ds es
          unfold placeU
          split
          · rename_i root er
            cases eu : O.updAt (extF ds) ks root with
            | none => exact pe_bot fun σ H Q => tR_none
            | some root' =>
              refine pe_wk (pe_lm PySem.F.slot_list_extend PySem.F.type_list_extend mt_extend px (ha false r X sc sc0 y g hy) (mt_plain hy) hl hb) fun σ H Q q => ?_
              obtain ⟨F, B, s, q⟩ := tR_mk q
              obtain ⟨v0, p, xs, e1, e2, e3⟩ := hpl s
              refine ⟨F, B, v0, _, s, e1, e2, fun H1 k1 => ⟨tyV_l (k1 _ _ e3), F, B, _, _, s.same k1, ea, fun u H2 F2 B2 A2 p2 => ?_⟩⟩
              obtain ⟨v0', p', os, xs', A1, pre, post, o1, g1, rfl, g2, g3, g4, g5, g6⟩ := stt_upd (extF_lst ds) p2.st er eu
              have hv : v0' = v0 := by
                rw [e1] at g1
                cases g1; rfl
              subst hv
              have hpp : p' = p := by
                rcases Bool.or_eq_true _ _ ▸ hc with hk | hk
                · have := List.isEmpty_iff.mp hk
                  subst this
                  have : V.ref p = V.ref p' := e2.symm.trans g2
                  cases this; rfl
                · have := Wlk.inj (Wlk.grows (fun a u e => p2.quiet hk a u (k1 a u e)) e2) g2
                  cases this; rfl
              subst hpp
              have sv := p2.ro.shv es
              simp only [Shv] at sv
              obtain ⟨b0, zs, rfl, b1, b2⟩ := sv
              simp only [extF] at g5
              split at g5
              · rename_i hz
                simp only [Option.some.injEq] at g5
                subst g5
                refine ⟨p', b0, xs', zs, rfl, rfl, g3, b1, by rw [rol_len g4, rpl_len b2]; exact hz, ?_⟩
                have hpB : p' ∈ pre ++ (p' :: A1) ++ post := by simp
                have hnp : p' ∉ A1 := by
                  have := p2.st.nd
                  rw [List.append_assoc, List.nodup_append] at this
                  have := (List.nodup_append.mp this.2.1).1
                  exact (List.nodup_cons.mp this).1
                have kA1 : ROL X.K W.L F2 (upd H2 p' (.lst (xs' ++ zs))) os xs' A1 := ROL.keep (fun _ h => h) os xs' A1 (kept_upd g3 (p2.st.df p' hpB) hnp) g4
                have kD : RpL X.K F2 (upd H2 p' (.lst (xs' ++ zs))) ds zs := RpL.keep (fun _ h => h) (kept_upd g3 (p2.st.df p' hpB) (by simp)) ds zs b2
                have st := g6 (xs' ++ zs) _ A1 rfl (rol_apps kA1 kD) p2.st.nd (fun a ha hf => p2.st.df a (by simp [ha]) hf)
                have t := (((Tr.same k1).trans p2.tr).trans (tr_upd (u := .lst (xs' ++ zs)) hpB (fun a ha => .inl ha)))
                exact q _ _ F2 _ [] (Ps.plain t st rfl fun hh => nomatch hh)
              · cases g5
          · exact pe_bot fun σ H Q => tR_none
        · exact pe_bot fun σ H Q => tR_none
      · exact pe_bot fun σ H Q => tR_none
    · rw [if_neg hc]
      exact pe_bot fun σ H Q => tR_none
  · exact pe_bot fun σ H Q => tR_none
/-- an item of a name's own list goes out -/
theorem take_ok {i j : Nat} {os : List O} {o : O} {p : Addr} {xs : List V} {q : Bool} (s : Stt K L F H r σ B) (er : ge r i = some (.lst os)) (eo : os[j]? = some o) (e1 : σ[i]? = some (some (.ref p))) (e2 : H p = some (.lst xs)) :
    ∃ y B' A, xs[j]? = some y ∧ xs.length = os.length ∧ (∀ F0 B0 H0, Tr F0 B0 H0 F B H → (q = true → False) → Ps K L q false F0 B0 H0 (r.set i (some (.lst (os.eraseIdx j)))) o σ y (upd H p (.lst (xs.eraseIdx j))) F B' A) := by
  obtain ⟨B1, A, B2, rfl, g, _, k⟩ := EnvR.slot r σ B i s.env (ge_lt er)
  obtain ⟨v0, g1, g2⟩ := g _ (ge_eq er)
  rw [e1] at g1
  cases g1
  simp only [RO] at g2
  obtain ⟨p', xs', A1, e0, h1, h2, rfl⟩ := g2
  cases e0
  rw [e2] at h1
  cases h1
  obtain ⟨y, C1, Cj, C2, rfl, c1, c2, c3, c4⟩ := rol_split h2 eo
  have hn := nodup_mid s.nd
  have hpB : p ∈ B1 ++ (p :: (C1 ++ Cj ++ C2)) ++ B2 := by simp
  have hpF := s.df p hpB
  have hA : (p :: (C1 ++ Cj ++ C2)).Nodup := by
    have := s.nd
    rw [List.append_assoc, List.nodup_append] at this
    exact (List.nodup_append.mp this.2.1).1
  have hp1 := (List.nodup_cons.mp hA).1
  have kE : ROL K L F (upd H p (.lst (xs.eraseIdx j))) (os.eraseIdx j) (xs.eraseIdx j) (C1 ++ C2) := ROL.keep (fun _ h => h) _ _ _ (kept_upd e2 hpF fun hh => hp1 (by
    rcases List.mem_append.mp hh with hh | hh <;> simp [hh])) c4
  have kO : RO K L F (upd H p (.lst (xs.eraseIdx j))) o y Cj := RO.keep (fun _ h => h) _ _ _ (kept_upd e2 hpF fun hh => hp1 (by simp [hh])) c2
  have kk := (k F (upd H p (.lst (xs.eraseIdx j))) (fun _ h => h) (kept_upd e2 hpF (hn.2 p (by simp)))).1 (.ref p) (.lst (os.eraseIdx j)) (p :: (C1 ++ C2)) (by
    simp only [RO]
    exact ⟨p, _, _, rfl, upd_same, kE, rfl⟩)
  rw [set_self e1] at kk
  have perm : (B1 ++ (p :: (C1 ++ C2)) ++ B2 ++ Cj).Perm (B1 ++ (p :: (C1 ++ Cj ++ C2)) ++ B2) := by
    simp only [List.append_assoc, List.cons_append]
    refine List.Perm.append_left _ (List.Perm.cons _ (List.Perm.append_left _ ?_))
    have h1 : (C2 ++ (B2 ++ Cj)).Perm (C2 ++ (Cj ++ B2)) := List.Perm.append_left _ List.perm_append_comm
    refine h1.trans ?_
    rw [← List.append_assoc, ← List.append_assoc]
    exact List.Perm.append_right _ List.perm_append_comm
  have nd := perm.nodup_iff.mpr s.nd
  have sub : ∀ a, a ∈ B1 ++ (p :: (C1 ++ C2)) ++ B2 → a ∈ B1 ++ (p :: (C1 ++ Cj ++ C2)) ++ B2 := fun a ha => perm.mem_iff.mp (List.mem_append.mpr (.inl ha))
  have subj : ∀ a, a ∈ Cj → a ∈ B1 ++ (p :: (C1 ++ Cj ++ C2)) ++ B2 := fun a ha => perm.mem_iff.mp (List.mem_append.mpr (.inr ha))
  refine ⟨y, B1 ++ (p :: (C1 ++ C2)) ++ B2, Cj, c1, rol_len h2, fun F0 B0 H0 t hq => ⟨(t.trans (tr_upd hpB fun a ha => .inl (sub a ha))), ⟨kk, (List.nodup_append.mp nd).1, fun a ha => s.df a (sub a ha), fun a hf => ?_⟩, kO, fun _ => ⟨nd, fun a ha => s.df a (subj a ha), fun a ha => t.nb a (subj a ha)⟩, (fun h => nomatch h), fun h => (hq h).elim⟩⟩
  obtain ⟨u, e⟩ := s.dm a hf
  by_cases ea : a = p
  · subst ea; exact ⟨_, upd_same⟩
  · exact ⟨u, by rw [upd_ne ea]; exact e⟩
theorem list_at {i : Nat} {os : List O} (s : Stt K L F H r σ B) (er : ge r i = some (.lst os)) : ∃ p xs, σ[i]? = some (some (.ref p)) ∧ H p = some (.lst xs) := by
  obtain ⟨v, A, g1, g2, _⟩ := s.ge er
  simp only [RO] at g2
  obtain ⟨p, xs, A1, rfl, h1, _⟩ := g2
  exact ⟨p, xs, g1, h1⟩
theorem eraseLast {α : Type} : ∀ (l : List α), l.eraseIdx (l.length - 1) = l.dropLast
  | [] => rfl
  | [a] => rfl
  | a :: b :: l => by
    have ih := eraseLast (b :: l)
    simp only [List.length_cons, Nat.add_sub_cancel] at ih ⊢
    rw [List.eraseIdx_cons_succ, ih, List.dropLast_cons₂]
theorem snd_pop {o : T} : SE W (.pop o) := by
  intro m r X sc sc0 e g h
  cases o
  case var i =>
    simp only [Wd.mt, mt] at h
    split at h <;> try (cases h; done)
    rename_i x mm apos cpos
    simp only [Bool.and_eq_true, decide_eq_true_eq] at h
    obtain ⟨⟨⟨rfl, hx⟩, hb⟩, hl⟩ := h
    simp only [Wd.ev, ev]
    rw [not_pl (t := .pop (.var i)) rfl]
    split
    · rename_i os er
      split
      · rename_i o eo
        refine pe_wk (pe_lm0 PySem.F.slot_list_pop PySem.F.type_list_pop mt_pop (se_var (W := W) false i r x g hx) hl hb) fun σ H Q q => ?_
        obtain ⟨F, B, s, q⟩ := tR_mk q
        obtain ⟨p, xs, e1, e2⟩ := list_at s er
        rw [List.getLast?_eq_getElem?] at eo
        obtain ⟨y, B', A, c1, c2, c3⟩ := take_ok (q := false) s er eo e1 e2
        refine ⟨_, e1, tyV_l e2, p, xs, y, rfl, rfl, e2, by rw [c2]; exact c1, ?_⟩
        have := c3 F B H Tr.refl fun hh => nomatch hh
        rw [eraseLast, ← c2, eraseLast] at this
        exact q _ _ F B' A this
      · exact pe_bot fun σ H Q => tR_none
    · exact pe_bot fun σ H Q => tR_none
  all_goals exact pe_bot fun σ H Q => tR_none
theorem snd_popi {o a : T} (ha : SE W a) : SE W (.popi o a) := by
  intro m r X sc sc0 e g h
  cases o
  case var i =>
    simp only [Wd.mt, mt] at h
    split at h <;> try (cases h; done)
    rename_i x mm apos y cpos
    simp only [Bool.and_eq_true, decide_eq_true_eq] at h
    obtain ⟨⟨⟨⟨rfl, hx⟩, hy⟩, hb⟩, hl⟩ := h
    simp only [Wd.ev, ev]
    rw [not_pl (t := .popi (.var i) a) rfl]
    split
    · rename_i k r1 e0
      split at e0
      · rename_i os0 er0
        split
        · rename_i os er
          split
          · rename_i j ej
            split
            · rename_i o eo
              refine pe_wk (pe_lm PySem.F.slot_list_pop PySem.F.type_list_pop mt_popAt (se_var (W := W) false i r x g hx) (ha false r X sc sc0 y g hy) (mt_plain hy) hl hb) fun σ H Q q => ?_
              obtain ⟨F, B, s, q⟩ := tR_mk q
              obtain ⟨p0, xs0, e1, e2⟩ := list_at s er0
              refine ⟨_, e1, tyV_l e2, F, B, _, _, s, e0, fun v H1 F1 B1 A1 p1 => ?_⟩
              obtain ⟨p, xs, e3, e4⟩ := list_at p1.st er
              rw [e1] at e3
              cases e3
              obtain ⟨y, B', A, c1, c2, c3⟩ := take_ok (q := false) p1.st er eo e1 e4
              have hs : small k = true := by
                by_cases hh : small k = true
                · exact hh
                · rw [if_neg hh] at ej; cases ej
              rw [if_pos hs] at ej
              have hk := ixN_seq ej
              have := p1.int
              subst this
              simp only [small, Bool.and_eq_true, decide_eq_true_eq] at hs
              exact ⟨p0, xs, k, j, y, rfl, rfl, e4, by omega, by omega, by rw [c2]; exact hk.1, c1, q _ _ F1 B' A (c3 F B H p1.tr fun hh => nomatch hh)⟩
            · exact pe_bot fun σ H Q => tR_none
          · exact pe_bot fun σ H Q => tR_none
        · exact pe_bot fun σ H Q => tR_none
      · cases e0
    · exact pe_bot fun σ H Q => tR_none
  all_goals exact pe_bot fun σ H Q => tR_none
end
end Mi

end
section
set_option maxHeartbeats 2000000
/-! Mi23: isinstance; calls. -/
namespace Mi
open PySem L2
theorem kit_all : ∀ t ∈ ["NoneType", "bool", "int", "str", "list", "tuple"], ∀ c ∈ ["int", "bool", "str", "tuple", "list", "dict"], kitB t c = some (isKind t c) := by decide +kernel
theorem boot_cls : ∀ c ∈ ["int", "bool", "str", "tuple", "list", "dict"], bootBuiltins (Str.ofString c) = some (.type c) := by
  intro c h
  simp only [List.mem_cons, List.not_mem_nil, or_false] at h
  rcases h with rfl | rfl | rfl | rfl | rfl | rfl <;> with_unfolding_all rfl
theorem boot_isi : bootBuiltins "isinstance" = some (.builtin "isinstance") := by with_unfolding_all rfl
section
variable {W : Wd} {K : PySem.W.Frag} {L : Nat → Addr → Prop} {F F1 F2 : Fz} {H H1 H2 : Hp} {r r1 r2 : En} {σ : St} {B B1 B2 A1 A2 : List Addr}
theorem sqt_ty {a : Addr} {xs : List V} (h : SqT K H a xs) : TyX K H (.ref a) (.type "tuple") := by
  rcases h with (h | ⟨o, h⟩) | ⟨o, its, n, h1, h2, h3, h4, h5⟩
  · exact .base (.tup h)
  · exact .fTuple h
  · exact .kTuple h1 h2
theorem ro_ty {o : O} {v : V} {A : List Addr} {t : String} (h : RO K L F H o v A) (e : tyn o = some t) : TyX K H v (.type t) ∧ t ∈ ["NoneType", "bool", "int", "str", "list", "tuple"] := by
  cases o with
  | val d =>
    have h := ro_rp h
    cases d with
    | none => cases e; simp only [Rp] at h; subst h; exact ⟨.base .non, by simp⟩
    | bool b => cases e; simp only [Rp] at h; subst h; exact ⟨.base (.bl b), by simp⟩
    | int b => cases e; simp only [Rp] at h; subst h; exact ⟨.base (.int b), by simp⟩
    | str b => cases e; simp only [Rp] at h; subst h; exact ⟨.base (.str b), by simp⟩
    | list ds =>
      cases e
      simp only [Rp] at h
      obtain ⟨a, xs, rfl, h1, _⟩ := h
      exact ⟨.base (.lst h1), by simp⟩
    | tuple ds =>
      cases e
      simp only [Rp] at h
      obtain ⟨a, xs, rfl, h1, _⟩ := h
      exact ⟨sqt_ty h1, by simp⟩
    | dict _ => cases e
  | lst os =>
    cases e
    simp only [RO] at h
    obtain ⟨a, xs, A1, rfl, h1, _⟩ := h
    exact ⟨.base (.lst h1), by simp⟩
  | tup os =>
    cases e
    simp only [RO] at h
    obtain ⟨a, xs, rfl, h1, _⟩ := h
    exact ⟨sqt_ty h1, by simp⟩
  | fn k => cases e
  | scr ns => cases e
theorem cls_pe {X : Cx} {sc sc0 : Scope} (g : W.G X sc sc0) {c : String} {e : Expr} (h : clsE sc W.fr c e = true) : PE X e (tC (.ty c)) ∧ c ∈ ["int", "bool", "str", "tuple", "list", "dict"] ∧ plainE e = true := by
  unfold clsE at h
  split at h
  · simp only [Bool.and_eq_true, decide_eq_true_eq] at h
    obtain ⟨⟨⟨⟨rfl, h2⟩, h3⟩, h4⟩, h5⟩ := h
    have hm : c ∈ ["int", "bool", "str", "tuple", "list", "dict"] := by simpa using h5
    obtain ⟨n1, n2, n3⟩ := name_ok h3
    exact ⟨pe_bltn (gl_of g.sc h2) (g.frs _ (by simpa using h4)) (boot_cls c hm) rfl n3 n1, hm, rfl⟩
  · cases h
theorem clss_pe {X : Cx} {sc sc0 : Scope} (g : W.G X sc sc0) : ∀ {cs : List String} {es : List Expr}, clsEs sc W.fr cs es = true → PA X es (fun _ H Q => Q (cs.map V.ty) H) ∧ (∀ c ∈ cs, c ∈ ["int", "bool", "str", "tuple", "list", "dict"]) ∧ cs.length = es.length
  | [], [], _ => ⟨pa_nil, by simp, rfl⟩
  | [], _ :: _, h => by cases h
  | _ :: _, [], h => by cases h
  | c :: cs, e :: es, h => by
    simp only [clsEs, Bool.and_eq_true] at h
    obtain ⟨p1, m1, q1⟩ := cls_pe g h.1
    obtain ⟨p2, m2, l2⟩ := clss_pe g h.2
    refine ⟨pa_wk (pa_cons p1 p2 (starE q1)) fun σ H Q q => q, ?_, by simp [l2]⟩
    intro d hd
    rcases List.mem_cons.mp hd with rfl | hd
    · exact m1
    · exact m2 d hd
theorem kit_any {t : String} (ht : t ∈ ["NoneType", "bool", "int", "str", "list", "tuple"]) : ∀ {cs : List String}, (∀ c ∈ cs, c ∈ ["int", "bool", "str", "tuple", "list", "dict"]) → PySem.W.kitAny K (.type t) (cs.map Value.type) = some (cs.any (isKind t))
  | [], _ => kitAny_nil
  | c :: cs, h => by
    have h1 := kit_ty (K := K) (kit_all t ht c (h c (by simp)))
    have ih := kit_any ht (cs := cs) fun d hd => h d (by simp [hd])
    rw [List.map_cons, List.any_cons]
    refine kitAny_cons h1 (fun hb => ?_) (fun hb => ?_)
    · rw [hb, Bool.false_or]; exact ih
    · rw [hb, Bool.true_or]
theorem clsv : ∀ cs : List String, Paired ClsV (cs.map V.ty) (cs.map Value.type)
  | [] => .nil
  | c :: cs => .cons (.ty c) (clsv cs)
theorem ty_grows {v : V} {t : String} {o : O} {A : List Addr} (h : RO K L F H o v A) (e : tyn o = some t) (g : ∀ a u, H a = some u → H1 a = some u) : TyX K H1 v (.type t) := (ro_ty (h.grows g) e).1
theorem snd_isi {a : T} {cs : List String} (ha : SE W a) : SE W (.isi a cs) := by
  intro m r X sc sc0 e g h
  simp only [Wd.mt, mt] at h
  split at h <;> try (cases h; done)
  rename_i x p y z pos
  simp only [Bool.and_eq_true, decide_eq_true_eq] at h
  obtain ⟨⟨⟨⟨⟨rfl, h2⟩, h3⟩, h4⟩, hy⟩, hz⟩ := h
  simp only [Wd.ev, ev]
  rw [not_pl (t := .isi a cs) rfl]
  have hpy := mt_plain hy
  split
  · rename_i xo r1 ea
    cases et : tyn xo with
    | none => exact pe_bot fun σ H Q => tR_none
    | some t =>
      have main : ∀ {tz : TE} {R : List V → Hp → VK → Prop} (_ : CallR X (.builtin "isinstance") R) (_ : PE X z tz) (_ : plainE z = true)
          (_ : ∀ (F : Fz) (H : Hp) (σ : St) (v : V) (A : List Addr), RO X.K W.L F H xo v A → ∀ Q : VK, (∀ H', (∀ a u, H a = some u → H' a = some u) → Q (.bl (cs.any (isKind t))) H') → tz σ H fun w H' => R [v, w] H' Q),
          PE X (.Call (.Name "isinstance" p) [y, z] [] pos) (tR X.K W.L a.qt false r (some (.val (.bool (cs.any (isKind t))), r1))) := by
        intro tz R hR hz hp hq
        refine pe_wk (pe_callB hR (gl_of g.sc h2) (g.frs _ (by simpa using h4)) boot_isi (pa_cons (ha false r X sc sc0 y g hy) (pa_cons hz pa_nil (starE hp)) (starE hpy)) (name_ok h3).2.2 (name_ok h3).1 (starE hpy) (starAll (by simp [hp]))) fun σ H Q q => ?_
        obtain ⟨F, B, s, q⟩ := tR_mk q
        refine ⟨F, B, _, _, s, ea, fun v H1 F1 B1 A1 p1 => ?_⟩
        exact hq F1 H1 σ v A1 p1.ro Q fun H' g' => q _ H' F1 B1 [] (Ps.plain (p1.tr.trans (Tr.same g')) (p1.st.same g') rfl fun hh a u e => g' a u (p1.quiet hh a u e))
      by_cases hc : ∃ c, cs = [c]
      · obtain ⟨c, rfl⟩ := hc
        obtain ⟨pz, mz, qz⟩ := cls_pe g hz
        refine main call_isi pz qz fun F H σ v A ro Q q => ?_
        obtain ⟨ty, tm⟩ := ro_ty ro et
        refine ⟨v, .ty c, _, _, _, rfl, .ty c, ty, kit_ty (kit_all t tm c mz), ?_⟩
        simpa using q H rd_refl
      · have hz' : (match z with
          | .Tuple es _ _ => clsEs sc W.fr cs es && decide (es.length ≤ 100)
          | _ => false) = true := by
          cases cs with
          | nil => exact hz
          | cons c cs =>
            cases cs with
            | nil => exact absurd ⟨c, rfl⟩ hc
            | cons _ _ => exact hz
        split at hz' <;> try (cases hz'; done)
        rename_i es k' tp
        simp only [Bool.and_eq_true, decide_eq_true_eq] at hz'
        obtain ⟨pz, mz, lz⟩ := clss_pe g hz'.1
        refine main call_isiT (pe_tup pz) rfl fun F H σ v A ro Q q => ?_
        refine ⟨by rw [List.length_map, lz, sizeLine_eq]; omega, fun p hp => ?_⟩
        have tm := (ro_ty ro et).2
        refine ⟨v, p, cs.map V.ty, _, cs.map Value.type, _, rfl, upd_same, clsv cs, ty_grows ro et (same_new hp), kit_any tm mz, q _ (same_new hp)⟩
  · exact pe_bot fun σ H Q => tR_none
end
end Mi

end
section
set_option maxHeartbeats 2000000
/-! Mi24: calls. -/
namespace Mi
open PySem L2
section
variable {W : Wd} {K : PySem.W.Frag} {L : Nat → Addr → Prop} {F F1 F2 : Fz} {H H1 H2 : Hp} {r r1 r2 : En} {σ : St} {B B1 B2 A1 A2 : List Addr}
/-- where the changed arguments' names stand -/
def Pos_ (σ : St) : List (Option Nat) → List V → Prop
  | [], _ => True
  | some i :: ns, v :: vs => σ[i]? = some (some v) ∧ Pos_ σ ns vs
  | none :: ns, _ :: vs => Pos_ σ ns vs
  | _, _ => False
theorem roi_pos : ∀ {ns : List (Option Nat)} {os : List O} {vs : List V} {A : List Addr}, ROI K L F H σ ns os vs A → Pos_ σ ns vs
  | [], _, _, _, _ => trivial
  | some i :: ns, _, _, _, h => by
    obtain ⟨o, os', v, vs', rfl, rfl, e, h⟩ := h
    exact ⟨e, roi_pos h⟩
  | none :: ns, _, _, _, h => by
    obtain ⟨o, os', v, vs', A1, A2, rfl, rfl, _, h, _⟩ := h
    show Pos_ σ ns vs'
    exact roi_pos h
theorem nodup3 {B A C : List Addr} (h1 : (B ++ C).Nodup) (h2 : A.Nodup) (h3 : ∀ a ∈ A, a ∉ B ++ C) : (B ++ (A ++ C)).Nodup := by
  rw [List.nodup_append] at h1
  obtain ⟨n1, n2, n3⟩ := h1
  refine List.nodup_append.mpr ⟨n1, List.nodup_append.mpr ⟨h2, n2, ?_⟩, ?_⟩
  · rintro a ha b hb rfl
    exact h3 a ha (by simp [hb])
  · rintro a ha b hb rfl
    rcases List.mem_append.mp hb with hb | hb
    · exact h3 a hb (by simp [ha])
    · exact n3 a ha a hb rfl
theorem move_in : ∀ {ns : List (Option Nat)} {os : List O} {vs : List V} {A : List Addr} {r r2 : En} {l : List O} {B : List Addr}, Stt K L F H r σ B → ROI K L F H σ ns os vs A → (B ++ A).Nodup → (∀ a ∈ A, ¬ F a) → moveIn ns os r = some (l, r2) →
    ∃ A1 B2, Stt K L F H r2 σ B2 ∧ ROL K L F H l vs A1 ∧ (B2 ++ A1).Nodup ∧ (∀ a ∈ A1, ¬ F a) ∧ (∀ a ∈ B2 ++ A1, a ∈ B ++ A) ∧ (ns.all (·.isNone) = true → A1 = A)
  | [], os, vs, A, r, r2, l, B, s, h, nd, df, e => by
    obtain ⟨rfl, rfl, rfl⟩ := h
    simp only [moveIn, Option.some.injEq, Prod.mk.injEq] at e
    obtain ⟨rfl, rfl⟩ := e
    exact ⟨[], B, s, by simp [ROL], nd, df, fun a ha => ha, fun _ => rfl⟩
  | some i :: ns, os, vs, A, r, r2, l, B, s, h, nd, df, e => by
    obtain ⟨o, os', v, vs', rfl, rfl, e1, h⟩ := h
    simp only [moveIn] at e
    split at e
    · rename_i o1 eg
      split at e
      · rename_i l' r' em
        simp only [Option.some.injEq, Prod.mk.injEq] at e
        obtain ⟨rfl, rfl⟩ := e
        obtain ⟨C1, Ao, C2, rfl, g, _, k⟩ := EnvR.slot r σ B i s.env (ge_lt eg)
        obtain ⟨v', g1, g2⟩ := g _ (ge_eq eg)
        rw [e1] at g1
        cases g1
        have kk := (k F H (fun _ h => h) (Kept.same rd_refl)).2 (some v)
        rw [set_self e1] at kk
        have hn := nodup_mid s.nd
        have hAo : Ao.Nodup := by
          have := s.nd
          rw [List.append_assoc, List.nodup_append] at this
          exact (List.nodup_append.mp this.2.1).1
        have s' : Stt K L F H (r.set i none) σ (C1 ++ C2) := ⟨kk, hn.1, fun a ha => s.df a (by rcases List.mem_append.mp ha with ha | ha <;> simp [ha]), s.dm⟩
        rw [List.nodup_append] at nd
        obtain ⟨n1, n2, n3⟩ := nd
        obtain ⟨D1, B2, s2, ro, nd2, df2, sub, _⟩ := move_in s' h (List.nodup_append.mpr ⟨hn.1, n2, fun a ha b hb => n3 a (by rcases List.mem_append.mp ha with ha | ha <;> simp [ha]) b hb⟩) df em
        refine ⟨Ao ++ D1, B2, s2, ?_, nodup3 nd2 hAo fun a ha hb => ?_, fun a ha => ?_, fun a ha => ?_, fun hh => by simp at hh⟩
        · simp only [ROL]
          exact ⟨v, vs', Ao, D1, rfl, g2, ro, rfl⟩
        · rcases List.mem_append.mp (sub a hb) with hb | hb
          · exact hn.2 a ha hb
          · exact n3 a (by simp [ha]) a hb rfl
        · rcases List.mem_append.mp ha with ha | ha
          · exact s.df a (by simp [ha])
          · exact df2 a ha
        · have : a ∈ B2 ++ D1 → a ∈ C1 ++ Ao ++ C2 ++ A := fun h => by
            rcases List.mem_append.mp (sub a h) with h | h
            · rcases List.mem_append.mp h with h | h <;> simp [h]
            · simp [h]
          rcases List.mem_append.mp ha with ha | ha
          · exact this (by simp [ha])
          · rcases List.mem_append.mp ha with ha | ha
            · simp [ha]
            · exact this (by simp [ha])
      · cases e
    · cases e
  | none :: ns, os, vs, A, r, r2, l, B, s, h, nd, df, e => by
    obtain ⟨o, os', v, vs', C1, C2, rfl, rfl, h1, h, rfl⟩ := h
    simp only [moveIn] at e
    split at e
    · rename_i l' r' em
      simp only [Option.some.injEq, Prod.mk.injEq] at e
      obtain ⟨rfl, rfl⟩ := e
      have nd' := nd
      rw [List.nodup_append] at nd
      obtain ⟨n1, n2, n3⟩ := nd
      rw [List.nodup_append] at n2
      obtain ⟨m1, m2, m3⟩ := n2
      obtain ⟨D1, B2, s2, ro, nd2, df2, sub, hall⟩ := move_in s h (List.nodup_append.mpr ⟨n1, m2, fun a ha b hb => n3 a ha b (by simp [hb])⟩) (fun a ha => df a (by simp [ha])) em
      refine ⟨C1 ++ D1, B2, s2, ?_, nodup3 nd2 m1 fun a ha hb => ?_, fun a ha => ?_, fun a ha => ?_, fun hh => by rw [hall (by simpa using hh)]⟩
      · simp only [ROL]
        exact ⟨v, vs', C1, D1, rfl, h1, ro, rfl⟩
      · rcases List.mem_append.mp (sub a hb) with hb | hb
        · exact n3 a hb a (by simp [ha]) rfl
        · exact m3 a ha a hb rfl
      · rcases List.mem_append.mp ha with ha | ha
        · exact df a (by simp [ha])
        · exact df2 a ha
      · have : a ∈ B2 ++ D1 → a ∈ B ++ (C1 ++ C2) := fun h => by
          rcases List.mem_append.mp (sub a h) with h | h <;> simp [h]
        rcases List.mem_append.mp ha with ha | ha
        · exact this (by simp [ha])
        · rcases List.mem_append.mp ha with ha | ha
          · simp [ha]
          · exact this (by simp [ha])
    · cases e
theorem move_out : ∀ {ns : List (Option Nat)} {outs : List (Option O)} {vs : List V} {C : List Addr} {r r3 : En} {B : List Addr}, Stt K L F H r σ B → Pos_ σ ns vs → OutR K L F H outs vs C → (B ++ C).Nodup → (∀ a ∈ C, ¬ F a) → moveOut ns outs r = some r3 →
    ∃ B3, Stt K L F H r3 σ B3 ∧ ∀ a ∈ B3, a ∈ B ++ C
  | [], outs, vs, C, r, r3, B, s, hp, h, nd, df, e => by
    cases outs with
    | nil =>
      simp only [moveOut, Option.some.injEq] at e
      subst e
      exact ⟨B, s, fun a ha => by simp [ha]⟩
    | cons _ _ => cases e
  | some i :: ns, outs, vs, C, r, r3, B, s, hp, h, nd, df, e => by
    cases outs with
    | nil => cases e
    | cons o outs =>
      cases o with
      | none => cases e
      | some o =>
        simp only [moveOut] at e
        obtain ⟨v, vs', C1, C2, rfl, h1, h, rfl⟩ := h
        obtain ⟨p1, p2⟩ := hp
        rw [List.nodup_append] at nd
        obtain ⟨n1, n2, n3⟩ := nd
        rw [List.nodup_append] at n2
        obtain ⟨m1, m2, m3⟩ := n2
        have hi : i < r.length := by
          rw [EnvR.len r σ B s.env]
          by_cases hh : i < σ.length
          · exact hh
          · rw [List.getElem?_eq_none (by omega)] at p1; cases p1
        obtain ⟨B', s', hb⟩ := s.put hi h1 (List.nodup_append.mpr ⟨n1, m1, fun a ha b hb => n3 a ha b (by simp [hb])⟩) (fun a ha => df a (by simp [ha]))
        rw [set_self p1] at s'
        obtain ⟨B3, s3, hb3⟩ := move_out s' p2 h (List.nodup_append.mpr ⟨s'.nd, m2, fun a ha b hb' e => by
          subst e
          rcases hb a ha with q | q
          · exact n3 a q a (by simp [hb']) rfl
          · exact m3 a q a hb' rfl⟩) (fun a ha => df a (by simp [ha])) e
        refine ⟨B3, s3, fun a ha => ?_⟩
        rcases List.mem_append.mp (hb3 a ha) with q | q
        · rcases hb a q with q | q <;> simp [q]
        · simp [q]
  | none :: ns, outs, vs, C, r, r3, B, s, hp, h, nd, df, e => by
    cases outs with
    | nil => cases e
    | cons o outs =>
      cases o with
      | some o => cases e
      | none =>
        simp only [moveOut] at e
        obtain ⟨v, vs', rfl, h⟩ := h
        exact move_out (ns := ns) (vs := vs') s hp h nd df e
theorem qt_noino : ∀ {t : T}, t.qt = true → (inos t).all (·.isNone) = true
  | .cons a s, h => by
    simp only [T.qt, Bool.and_eq_true] at h
    by_cases hi : ∃ i, a = .ino i
    · obtain ⟨i, rfl⟩ := hi
      cases h.1
    · rw [inos_cons fun i e => hi ⟨i, e⟩]
      simpa using qt_noino h.2
  | .nil, _ => rfl
  | .var _, _ => rfl
  | .con _, _ => rfl
  | .glo _, _ => rfl
  | .fn _, _ => rfl
  | .bin _ _ _, _ => rfl
  | .not _, _ => rfl
  | .neg _, _ => rfl
  | .and _ _, _ => rfl
  | .or _ _, _ => rfl
  | .cmp _ _ _, _ => rfl
  | .cmp2 _ _ _ _ _, _ => rfl
  | .ife _ _ _, _ => rfl
  | .tup _, _ => rfl
  | .lst _, _ => rfl
  | .idx _ _, _ => rfl
  | .slc _ _ _, _ => rfl
  | .rev _, _ => rfl
  | .lc _ _ _ _ _ _, _ => rfl
  | .call _ _, _ => rfl
  | .callk _ _ _ _ _, _ => rfl
  | .ino _, _ => rfl
  | .bi _ _, _ => rfl
  | .isi _ _, _ => rfl
  | .lrg _, _ => rfl
  | .lrg2 _ _, _ => rfl
  | .app _ _, _ => rfl
  | .ext _ _, _ => rfl
  | .pop _, _ => rfl
  | .popi _ _, _ => rfl
/-- behind the call -/
theorem call_ok {q : Bool} {cf : Cf} {k : Nat} {ns : List (Option Nat)} {os l : List O} {vs : List V} {A : List Addr} {o : O} {outs : List (Option O)} {r3 : En} (hq : q = true → ns.all (·.isNone) = true) (p : Pss K L q true ns F B H r1 os σ vs H1 F1 B1 A)
    (em : moveIn ns os r1 = some (l, r2)) (ec : cf k l = some (o, outs)) (eo : moveOut ns outs r2 = some r3) {Q : VK} (h : ∀ v H' F' B' A', Ps K L q false F B H r3 o σ v H' F' B' A' → Q v H') : spD K L cf k vs H1 Q := by
  obtain ⟨f1, f2, f3⟩ := p.fr rfl
  obtain ⟨D, B2, s2, ro, nd, df, sub, hall⟩ := move_in p.st p.ro f1 f2 em
  have ndD := (List.nodup_append.mp nd).2.1
  refine ⟨F1, l, D, o, outs, ec, ro, ndD, df, p.st.dm, fun v H' F' A' C c => ?_⟩
  have own := ROL.own l vs D ro
  have kp : Kept B2 F1 H1 H' := by
    refine ⟨fun a u hf e => c.e2 a u e fun hd => df a hd hf, fun a xs e => c.e2 a _ e fun hd => ?_, fun a o u e => c.e2 a _ e fun hd => ?_, fun a u ha e => c.e2 a u e fun hd => (List.nodup_append.mp nd).2.2 a ha a hd rfl⟩
    · obtain ⟨ys, q⟩ := own a hd
      rw [e] at q; cases q
    · obtain ⟨ys, q⟩ := own a hd
      rw [e] at q; cases q
  have notF : ∀ a ∈ B2, ¬ F' a := fun a ha hf => by
    rcases c.e3 a hf with q | q | q
    · exact s2.df a ha q
    · exact (List.nodup_append.mp nd).2.2 a ha a q rfl
    · obtain ⟨xs, e⟩ := s2.lists ha
      rw [e] at q; cases q
  have s2' : Stt K L F' H' r2 σ B2 := ⟨EnvR.keep c.e1 _ _ _ kp s2.env, s2.nd, notF, c.dm⟩
  have away : ∀ a ∈ A' ++ C, a ∉ B2 := fun a ha hb => by
    rcases c.nb a ha with q | q
    · exact (List.nodup_append.mp nd).2.2 a hb a q rfl
    · obtain ⟨xs, e⟩ := s2.lists hb
      rw [e] at q; cases q
  have ndc := List.nodup_append.mp c.nd
  obtain ⟨B3, s3, hb3⟩ := move_out s2' (roi_pos p.ro) c.out (List.nodup_append.mpr ⟨s2.nd, ndc.2.1, fun a ha b hb e => by subst e; exact away a (by simp [hb]) ha⟩) (fun a ha => c.df a (by simp [ha])) eo
  -- where what is owned comes from
  have from1 : ∀ a, a ∈ B1 ++ A → a ∈ B ∨ H a = none := fun a ha => by
    rcases List.mem_append.mp ha with ha | ha
    · exact p.tr.nb a ha
    · exact f3 a ha
  have fromD : ∀ a ∈ D, a ∈ B ∨ H a = none := fun a ha => from1 a (sub a (by simp [ha]))
  have fromN : ∀ a ∈ A' ++ C, a ∈ B ∨ H a = none := fun a ha => by
    rcases c.nb a ha with q | q
    · exact fromD a q
    · exact p.tr.none_of q
  refine h v H' F' B3 A' ⟨⟨fun a hf => c.e1 a (p.tr.e1 a hf), fun a u e hb => ?_, fun a hf => ?_, fun a ha => ?_⟩, s3, c.ro, fun _ => ⟨List.nodup_append.mpr ⟨s3.nd, ndc.1, ?_⟩, fun a ha => c.df a (by simp [ha]), fun a ha => fromN a (by simp [ha])⟩, (fun h => nomatch h), fun hh => ?_⟩
  · refine c.e2 a u (p.tr.e2 a u e hb) fun hd => ?_
    rcases fromD a hd with q | q
    · exact hb q
    · rw [e] at q; cases q
  · rcases c.e3 a hf with q | q | q
    · exact p.tr.e3 a q
    · exact .inr (fromD a q)
    · exact .inr (p.tr.none_of q)
  · rcases List.mem_append.mp (hb3 a ha) with q | q
    · exact from1 a (sub a (by simp [q]))
    · exact fromN a (by simp [q])
  · rintro a ha b hb rfl
    rcases List.mem_append.mp (hb3 a ha) with q | q
    · exact away a (by simp [hb]) q
    · exact ndc.2.2 a hb a q rfl
  · obtain ⟨q1, q2⟩ := p.qt hh
    have hD := hall (hq hh)
    have q2 := q2 rfl
    have nn : ∀ a, H1 a = none → H a = none := fun a e => by
      cases e' : H a with
      | none => rfl
      | some u => rw [q1 a u e'] at e; cases e
    refine ⟨fun a u e => c.e2 a u (q1 a u e) fun hd => ?_, fun _ a ha => ?_⟩
    · rw [hD] at hd
      rw [q2 a hd] at e; cases e
    · rcases c.nb a (by simp [ha]) with q | q
      · rw [hD] at q; exact q2 a q
      · exact nn a q
theorem snd_call {k : Nat} {as : T} (ha : SA W as) : SE W (.call k as) := by
  intro m r X sc sc0 e g h
  simp only [Wd.mt, mt] at h
  split at h <;> try (cases h; done)
  rename_i x p es pos
  simp only [Bool.and_eq_true, decide_eq_true_eq] at h
  obtain ⟨⟨⟨h1, h2⟩, h3⟩, h4⟩ := h
  obtain ⟨hp, hnil, pa⟩ := ha true r X sc sc0 es g h4
  obtain ⟨f, fd, ps, g1, g2, g3, g4, g5, _⟩ := g.fns k x h1
  simp only [Wd.ev, ev]
  rw [not_pl (t := .call k as) rfl]
  split
  · rename_i os r1 ea
    split
    · rename_i l r2 em
      split
      · rename_i o outs ec
        cases eo : moveOut (inos as) outs r2 with
        | none => exact pe_bot fun σ H Q => tR_none
        | some r3 =>
          refine pe_wk (pe_cl g5 g.room g.gu (gl_of g.sc h2) g1 g2 g4 pa (name_ok h3).1 hp fun hn σ H Q q => ?_) fun σ H Q q => ?_
          · have := hnil hn
            subst this
            have ea' : Mi.evs W.gl W.cf true .nil r = some ([], r) := evs_con0
            rw [Wd.evs, ea'] at q
            obtain ⟨F, B, s, q⟩ := tRs_mk q
            exact q [] H F B [] (pss_nil s)
          · obtain ⟨F, B, s, q⟩ := tR_mk q
            refine ⟨F, B, _, _, s, ea, fun vs H1 F1 B1 A p => ?_⟩
            exact call_ok (q := as.qt) qt_noino p em ec eo q
      · exact pe_bot fun σ H Q => tR_none
    · exact pe_bot fun σ H Q => tR_none
  · exact pe_bot fun σ H Q => tR_none
theorem rol_vals0 : ∀ {os : List O} {vs : List V} {A : List Addr}, ROL K L F H os vs A → os.all O.isVal = true → A = []
  | [], _, _, h, _ => by simp only [ROL] at h; exact h.2
  | o :: os, _, _, h, e => by
    simp only [ROL] at h
    obtain ⟨x, ys, C1, C2, rfl, h1, h2, rfl⟩ := h
    rw [List.all_cons, Bool.and_eq_true] at e
    rw [RO.isVal h1 e.1, rol_vals0 h2 e.2]
    rfl
theorem rol_cat : ∀ {os ps : List O} {vs zs : List V} {A C : List Addr}, ROL K L F H os vs A → ROL K L F H ps zs C → ROL K L F H (os ++ ps) (vs ++ zs) (A ++ C)
  | [], ps, _, zs, _, C, h, h' => by
    simp only [ROL] at h
    obtain ⟨rfl, rfl⟩ := h
    simpa using h'
  | o :: os, ps, _, zs, _, C, h, h' => by
    simp only [ROL] at h
    obtain ⟨x, ys, C1, C2, rfl, h1, h2, rfl⟩ := h
    simp only [List.cons_append, ROL]
    exact ⟨x, _, C1, _, rfl, h1, rol_cat h2 h', by simp⟩
theorem rol_perm {os : List O} {vs : List V} (h : ROL K L F H os vs []) (e : os.all O.isVal = true) : ∀ {pm : List Nat} {l : List O}, permL os pm = some l → ∃ lv, permL vs pm = some lv ∧ ROL K L F H l lv []
  | [], l, hp => by
    simp only [permL, Option.some.injEq] at hp
    subst hp
    exact ⟨[], rfl, by simp [ROL]⟩
  | i :: is, l, hp => by
    simp only [permL] at hp
    split at hp
    · rename_i x l0 e1 e2
      simp only [Option.some.injEq] at hp
      subst hp
      obtain ⟨v, A1, g1, g2, g3⟩ := rol_get h e1
      have : A1 = [] := List.eq_nil_iff_forall_not_mem.mpr fun a ha => by simpa using g3 a ha
      subst this
      obtain ⟨lv, g4, g5⟩ := rol_perm h e e2
      refine ⟨v :: lv, by simp only [permL, g1, g4], ?_⟩
      simp only [ROL]
      exact ⟨v, lv, [], [], rfl, g2, g5, rfl⟩
    · cases hp
theorem out_none : ∀ {outs : List (Option O)} {vs : List V} {C : List Addr}, OutR K L F H outs vs C → outs.all (·.isNone) = true → C = []
  | [], _, _, h, _ => by exact h.2
  | none :: outs, _, _, h, e => by
    obtain ⟨v, vs', rfl, h⟩ := h
    exact out_none h (by simpa using e)
  | some o :: outs, _, _, h, e => by simp at e
def T.cnt : T → Nat
  | .cons _ s => s.cnt + 1
  | _ => 0
theorem mts_cnt {N : List Str} {sc : Scope} : ∀ {t : T} {es : List Expr}, W.mts N sc t es = true → t.cnt = es.length
  | .cons a s, es, h => by
    rcases mts_cons h with ⟨i, x, p, es', rfl, rfl, e1, e2, e3, e4⟩ | ⟨e, es', rfl, hp, he, hes⟩
    · simp [T.cnt, mts_cnt e4]
    · simp [T.cnt, mts_cnt hes]
  | .nil, es, h => by rw [mts_nil h]; rfl
  | .var _, _, h => Bool.noConfusion (show false = true from h)
  | .con _, _, h => Bool.noConfusion (show false = true from h)
  | .glo _, _, h => Bool.noConfusion (show false = true from h)
  | .fn _, _, h => Bool.noConfusion (show false = true from h)
  | .bin _ _ _, _, h => Bool.noConfusion (show false = true from h)
  | .not _, _, h => Bool.noConfusion (show false = true from h)
  | .neg _, _, h => Bool.noConfusion (show false = true from h)
  | .and _ _, _, h => Bool.noConfusion (show false = true from h)
  | .or _ _, _, h => Bool.noConfusion (show false = true from h)
  | .cmp _ _ _, _, h => Bool.noConfusion (show false = true from h)
  | .cmp2 _ _ _ _ _, _, h => Bool.noConfusion (show false = true from h)
  | .ife _ _ _, _, h => Bool.noConfusion (show false = true from h)
  | .tup _, _, h => Bool.noConfusion (show false = true from h)
  | .lst _, _, h => Bool.noConfusion (show false = true from h)
  | .idx _ _, _, h => Bool.noConfusion (show false = true from h)
  | .slc _ _ _, _, h => Bool.noConfusion (show false = true from h)
  | .rev _, _, h => Bool.noConfusion (show false = true from h)
  | .lc _ _ _ _ _ _, _, h => Bool.noConfusion (show false = true from h)
  | .call _ _, _, h => Bool.noConfusion (show false = true from h)
  | .callk _ _ _ _ _, _, h => Bool.noConfusion (show false = true from h)
  | .ino _, _, h => Bool.noConfusion (show false = true from h)
  | .bi _ _, _, h => Bool.noConfusion (show false = true from h)
  | .isi _ _, _, h => Bool.noConfusion (show false = true from h)
  | .lrg _, _, h => Bool.noConfusion (show false = true from h)
  | .lrg2 _ _, _, h => Bool.noConfusion (show false = true from h)
  | .app _ _, _, h => Bool.noConfusion (show false = true from h)
  | .ext _ _, _, h => Bool.noConfusion (show false = true from h)
  | .pop _, _, h => Bool.noConfusion (show false = true from h)
  | .popi _ _, _, h => Bool.noConfusion (show false = true from h)
theorem mtk_cnt {N : List Str} {sc : Scope} : ∀ {t : T} {kn : List Str} {es : List Keyword}, W.mtk N sc t kn es = true → t.cnt = kn.length
  | .cons a s, kn, kws, h => by
    simp only [Wd.mtk, mtk] at h
    split at h <;> try (cases h; done)
    simp only [Bool.and_eq_true, decide_eq_true_eq] at h
    simp [T.cnt, mtk_cnt h.2]
  | .nil, kn, kws, h => by
    simp only [Wd.mtk, mtk, Bool.and_eq_true, List.isEmpty_iff] at h
    rw [h.1]; rfl
  | .var _, _, _, h => Bool.noConfusion (show false = true from h)
  | .con _, _, _, h => Bool.noConfusion (show false = true from h)
  | .glo _, _, _, h => Bool.noConfusion (show false = true from h)
  | .fn _, _, _, h => Bool.noConfusion (show false = true from h)
  | .bin _ _ _, _, _, h => Bool.noConfusion (show false = true from h)
  | .not _, _, _, h => Bool.noConfusion (show false = true from h)
  | .neg _, _, _, h => Bool.noConfusion (show false = true from h)
  | .and _ _, _, _, h => Bool.noConfusion (show false = true from h)
  | .or _ _, _, _, h => Bool.noConfusion (show false = true from h)
  | .cmp _ _ _, _, _, h => Bool.noConfusion (show false = true from h)
  | .cmp2 _ _ _ _ _, _, _, h => Bool.noConfusion (show false = true from h)
  | .ife _ _ _, _, _, h => Bool.noConfusion (show false = true from h)
  | .tup _, _, _, h => Bool.noConfusion (show false = true from h)
  | .lst _, _, _, h => Bool.noConfusion (show false = true from h)
  | .idx _ _, _, _, h => Bool.noConfusion (show false = true from h)
  | .slc _ _ _, _, _, h => Bool.noConfusion (show false = true from h)
  | .rev _, _, _, h => Bool.noConfusion (show false = true from h)
  | .lc _ _ _ _ _ _, _, _, h => Bool.noConfusion (show false = true from h)
  | .call _ _, _, _, h => Bool.noConfusion (show false = true from h)
  | .callk _ _ _ _ _, _, _, h => Bool.noConfusion (show false = true from h)
  | .ino _, _, _, h => Bool.noConfusion (show false = true from h)
  | .bi _ _, _, _, h => Bool.noConfusion (show false = true from h)
  | .isi _ _, _, _, h => Bool.noConfusion (show false = true from h)
  | .lrg _, _, _, h => Bool.noConfusion (show false = true from h)
  | .lrg2 _ _, _, _, h => Bool.noConfusion (show false = true from h)
  | .app _ _, _, _, h => Bool.noConfusion (show false = true from h)
  | .ext _ _, _, _, h => Bool.noConfusion (show false = true from h)
  | .pop _, _, _, h => Bool.noConfusion (show false = true from h)
  | .popi _ _, _, _, h => Bool.noConfusion (show false = true from h)
theorem evs_cnt {m : Bool} : ∀ {t : T} {r r1 : En} {os : List O}, W.evs m t r = some (os, r1) → os.length = t.cnt
  | .cons a s, r, r1, os, h => by
    by_cases hi : ∃ i, a = .ino i
    · obtain ⟨i, rfl⟩ := hi
      rw [evs_ino] at h
      cases m with
      | false => cases h
      | true =>
        simp only at h
        split at h <;> try (cases h; done)
        split at h <;> try (cases h; done)
        rename_i e2
        simp only [Option.some.injEq, Prod.mk.injEq] at h
        obtain ⟨rfl, rfl⟩ := h
        simp [T.cnt, evs_cnt e2]
    · rw [evs_cons fun i e => hi ⟨i, e⟩] at h
      split at h <;> try (cases h; done)
      split at h <;> try (cases h; done)
      rename_i e2
      split at h <;> try (cases h; done)
      simp only [Option.some.injEq, Prod.mk.injEq] at h
      obtain ⟨rfl, rfl⟩ := h
      simp [T.cnt, evs_cnt e2]
  | .nil, r, r1, os, h => by
    have : Mi.evs W.gl W.cf m .nil r = some ([], r) := evs_con0
    rw [Wd.evs, this] at h
    cases h; rfl
  | .var _, _, _, _, h => nomatch (show (none : Option (List O × En)) = some _ from h)
  | .con _, _, _, _, h => nomatch (show (none : Option (List O × En)) = some _ from h)
  | .glo _, _, _, _, h => nomatch (show (none : Option (List O × En)) = some _ from h)
  | .fn _, _, _, _, h => nomatch (show (none : Option (List O × En)) = some _ from h)
  | .bin _ _ _, _, _, _, h => nomatch (show (none : Option (List O × En)) = some _ from h)
  | .not _, _, _, _, h => nomatch (show (none : Option (List O × En)) = some _ from h)
  | .neg _, _, _, _, h => nomatch (show (none : Option (List O × En)) = some _ from h)
  | .and _ _, _, _, _, h => nomatch (show (none : Option (List O × En)) = some _ from h)
  | .or _ _, _, _, _, h => nomatch (show (none : Option (List O × En)) = some _ from h)
  | .cmp _ _ _, _, _, _, h => nomatch (show (none : Option (List O × En)) = some _ from h)
  | .cmp2 _ _ _ _ _, _, _, _, h => nomatch (show (none : Option (List O × En)) = some _ from h)
  | .ife _ _ _, _, _, _, h => nomatch (show (none : Option (List O × En)) = some _ from h)
  | .tup _, _, _, _, h => nomatch (show (none : Option (List O × En)) = some _ from h)
  | .lst _, _, _, _, h => nomatch (show (none : Option (List O × En)) = some _ from h)
  | .idx _ _, _, _, _, h => nomatch (show (none : Option (List O × En)) = some _ from h)
  | .slc _ _ _, _, _, _, h => nomatch (show (none : Option (List O × En)) = some _ from h)
  | .rev _, _, _, _, h => nomatch (show (none : Option (List O × En)) = some _ from h)
  | .lc _ _ _ _ _ _, _, _, _, h => nomatch (show (none : Option (List O × En)) = some _ from h)
  | .call _ _, _, _, _, h => nomatch (show (none : Option (List O × En)) = some _ from h)
  | .callk _ _ _ _ _, _, _, _, h => nomatch (show (none : Option (List O × En)) = some _ from h)
  | .ino _, _, _, _, h => nomatch (show (none : Option (List O × En)) = some _ from h)
  | .bi _ _, _, _, _, h => nomatch (show (none : Option (List O × En)) = some _ from h)
  | .isi _ _, _, _, _, h => nomatch (show (none : Option (List O × En)) = some _ from h)
  | .lrg _, _, _, _, h => nomatch (show (none : Option (List O × En)) = some _ from h)
  | .lrg2 _ _, _, _, _, h => nomatch (show (none : Option (List O × En)) = some _ from h)
  | .app _ _, _, _, _, h => nomatch (show (none : Option (List O × En)) = some _ from h)
  | .ext _ _, _, _, _, h => nomatch (show (none : Option (List O × En)) = some _ from h)
  | .pop _, _, _, _, h => nomatch (show (none : Option (List O × En)) = some _ from h)
  | .popi _ _, _, _, _, h => nomatch (show (none : Option (List O × En)) = some _ from h)
theorem snd_callk {k : Nat} {as ks : T} {kn : List Str} {pm : List Nat} (ha : SA W as) (hk : SK W ks) : SE W (.callk k as ks kn pm) := by
  intro m r X sc sc0 e g h
  simp only [Wd.mt, mt] at h
  split at h <;> try (cases h; done)
  rename_i x p es kws pos
  simp only [Bool.and_eq_true, decide_eq_true_eq] at h
  obtain ⟨⟨⟨⟨⟨h1, h2⟩, h3⟩, h4⟩, h5⟩, h6⟩ := h
  obtain ⟨hp, hnil, pa⟩ := ha true r X sc sc0 es g h4
  obtain ⟨f, fd, ps, g1, g2, g3, g4, g5, g6⟩ := g.fns k x h1
  simp only [Wd.ev, ev]
  rw [not_pl (t := .callk k as ks kn pm) rfl]
  split
  · rename_i os r1 ea
    obtain ⟨hkn, pk⟩ := hk r1 X sc sc0 kn kws g h5
    split
    · rename_i zs r2 ek
      split
      · rename_i l ep
        split
        · rename_i o outs ec
          split
          · rename_i hc
            simp only [Bool.and_eq_true] at hc
            obtain ⟨⟨c1, c2⟩, c3⟩ := hc
            by_cases hv : (os ++ zs).all O.isVal = true
            · rw [if_pos hv] at ec
              refine pe_wk (pe_clk (np := es.length) (kn := kn) (pm := pm) g5 g.room g.gu (gl_of g.sc h2) g1 g2 (g6 _ _ _ h6) pa pk hkn (name_ok h3).1 hp fun hn σ H Q q => ?_) fun σ H Q q => ?_
              · have := hnil hn
                subst this
                have ea' : Mi.evs W.gl W.cf true .nil r = some ([], r) := evs_con0
                rw [Wd.evs, ea'] at q
                obtain ⟨F, B, s, q⟩ := tRs_mk q
                exact q [] H F B [] (pss_nil s)
              · obtain ⟨F, B, s, q⟩ := tR_mk q
                refine ⟨F, B, _, _, s, ea, fun vs H1 F1 B1 A p => ⟨F1, B1, _, _, p.st, ek, fun ws H2 F2 B2 C p2 => ?_⟩⟩
                have ro1 := roi_rol c2 p.ro
                have ro2 := roi_rol c3 p2.ro
                rw [List.all_append, Bool.and_eq_true] at hv
                have a1 := rol_vals0 ro1 hv.1
                have a2 := rol_vals0 ro2 hv.2
                subst a1
                subst a2
                have ro1' : ROL X.K W.L F2 H2 os vs [] := ROL.keep p2.tr.e1 os vs [] (p2.tr.kept p.st (by simp)) ro1
                have ro := rol_cat ro1' ro2
                obtain ⟨lv, q1, q2⟩ := rol_perm ro (by rw [List.all_append, Bool.and_eq_true]; exact hv) ep
                refine ⟨lv, ?_, ?_, q1, F2, l, [], o, outs, ec, q2, List.nodup_nil, by simp, p2.st.dm, fun v H' F' A' C c => ?_⟩
                · rw [rol_len ro1, evs_cnt ea, mts_cnt h4]
                · rw [rol_len ro2, evs_cnt ek, mtk_cnt h5]
                · have hC := out_none c.out c1
                  subst hC
                  have t2 : Tr F2 B2 H2 F' B2 H' := ⟨c.e1, fun a u e _ => c.e2 a u e (by simp), fun a hf => (c.e3 a hf).elim .inl fun q => q.elim (fun q => by simp at q) fun q => .inr (.inr q), fun a ha => .inl ha⟩
                  have t := (p.tr.trans p2.tr).trans t2
                  have fresh : ∀ a ∈ A', H2 a = none := fun a ha => (c.nb a (by simp [ha])).elim (fun q => by simp at q) fun q => q
                  have live : ∀ a ∈ B2, H2 a ≠ none := fun a ha => by
                    obtain ⟨xs, e⟩ := p2.st.lists ha
                    rw [e]; simp
                  have st : Stt X.K W.L F' H' r2 σ B2 := ⟨EnvR.keep c.e1 _ _ _ (Kept.same fun a u e => c.e2 a u e (by simp)) p2.st.env, p2.st.nd, fun a ha hf => by
                    rcases c.e3 a hf with q | q | q
                    · exact p2.st.df a ha q
                    · simp at q
                    · exact live a ha q, c.dm⟩
                  have nd := c.nd
                  rw [List.append_nil] at nd
                  refine q v H' F' B2 A' ⟨t, st, c.ro, fun _ => ⟨List.nodup_append.mpr ⟨p2.st.nd, nd, ?_⟩, fun a ha => c.df a (by simp [ha]), fun a ha => (p.tr.trans p2.tr).none_of (fresh a ha)⟩, (fun h => nomatch h), fun hh => ?_⟩
                  · rintro a ha b hb rfl
                    exact live a ha (fresh a hb)
                  · have g1 := quiet2 (fun h => (p.qt h).1) (fun h => (p2.qt h).1) hh
                    refine ⟨fun a u e => c.e2 a u (g1 a u e) (by simp), fun _ a ha => ?_⟩
                    cases e : H a with
                    | none => rfl
                    | some u =>
                      have := fresh a ha
                      rw [g1 a u e] at this; cases this
            · rw [if_neg hv] at ec; cases ec
          · exact pe_bot fun σ H Q => tR_none
        · exact pe_bot fun σ H Q => tR_none
      · exact pe_bot fun σ H Q => tR_none
    · exact pe_bot fun σ H Q => tR_none
  · exact pe_bot fun σ H Q => tR_none
end
end Mi

end
section
set_option maxHeartbeats 2000000
/-! Mi25: what is walked; comprehensions. -/
namespace Mi
open PySem L2
section
variable {W : Wd} {K : PySem.W.Frag} {L : Nat → Addr → Prop} {F F1 F2 : Fz} {H H1 H2 : Hp} {r r1 r2 : En} {σ : St} {B B1 B2 A1 A2 : List Addr}
theorem pi_wk {X : Cx} {tg e : Expr} {t t' : TI} (h : PI X tg e t') (hw : ∀ σ H R, t σ H R → t' σ H R) : PI X tg e t :=
  ⟨fun pins s σ H R I q => h.run pins s σ H R I (hw σ H R q)⟩
theorem pi_bot {X : Cx} {tg e : Expr} {t : TI} (hw : ∀ σ H R, ¬ t σ H R) : PI X tg e t :=
  ⟨fun pins s σ H R I q => (hw σ H R q).elim⟩
def tSrc (K : PySem.W.Frag) (L : Nat → Addr → Prop) (q m : Bool) (r : En) (res : Option (List D × En)) : TI := fun σ H R => ∃ F B ds r', Stt K L F H r σ B ∧ res = some (ds, r') ∧
  ∀ J H1 F1 B1 C, Tr F B H F1 B1 H1 → Stt K L F1 H1 r' σ B1 → (q = true → ∀ a u, H a = some u → H1 a = some u) → WkI K F1 C H1 J ds → (m = true → ∀ a ∈ C, a ∉ B1) → R J H1
theorem tSrc_mk {q m : Bool} {ds : List D} {R : It → Hp → Prop} (h : tSrc K L q m r (some (ds, r1)) σ H R) : ∃ F B, Stt K L F H r σ B ∧
  ∀ J H1 F1 B1 C, Tr F B H F1 B1 H1 → Stt K L F1 H1 r1 σ B1 → (q = true → ∀ a u, H a = some u → H1 a = some u) → WkI K F1 C H1 J ds → (m = true → ∀ a ∈ C, a ∉ B1) → R J H1 := by
  obtain ⟨F, B, ds', r', s, e, q⟩ := h
  cases e
  exact ⟨F, B, s, q⟩
theorem tSrc_none {q m : Bool} {R : It → Hp → Prop} : ¬ tSrc K L q m r none σ H R := by
  rintro ⟨F, B, ds, r', _, e, _⟩
  cases e
def itl (k : Sq) (K : PySem.W.Frag) (a : Addr) : It := match k with
  | .l => Itl K a
  | .t => Itt K a
theorem wk_itl {k : Sq} {A : List Addr} {a : Addr} {xs : List V} {ds : List D} (h2 : RpL K F H ds xs) (h3 : ∀ H', Kept A F H H' → SqH k K H' a xs) : WkI K F A H (itl k K a) ds := by
  cases k with
  | l => exact wk_list h2 h3
  | t => exact wk_tup h2 h3
theorem src_ok {it : T} (ha : SE W it) (hs : SA W it) {k : Sk} {iter tg : Expr} {X : Cx} {sc sc0 : Scope} (g : W.G X sc sc0) (m : Bool) (r : En)
    (h : srcB sc W.fr k iter tg (fun u => Mi.mt X.N W.nm W.fr W.gl W.kwt sc it u) (fun us => Mi.mts X.N W.nm W.fr W.gl W.kwt sc it us) = true) :
    (∀ x, foldedSetIterable iter X.env x = pure x) ∧ PI X tg iter (tSrc X.K W.L it.qt m r (srcO k (W.ev m it r) (if (inos it).all (·.isNone) then W.evs m it r else none))) := by
  cases k with
  | seq =>
    have hset : (∀ x, foldedSetIterable iter X.env x = pure x) ∧ W.mt X.N sc it iter = true := by
      unfold srcB at h
      simp only at h
      split at h
      · cases h
      · rename_i hne
        refine ⟨fun x => ?_, h⟩
        cases iter <;> first
          | rfl
          | exact absurd rfl (hne _ _ _)
    refine ⟨hset.1, ?_⟩
    have h := hset.2
    unfold srcO
    simp only
    cases ea : W.ev m it r with
    | none => exact pi_bot fun σ H R => tSrc_none
    | some p =>
      obtain ⟨o, r1⟩ := p
      simp only
      cases eo : o.its with
      | none => exact pi_bot fun σ H R => tSrc_none
      | some ds =>
        have pe := ha m r X sc sc0 iter g h
        have go : ∀ {F B H σ H1 v F1 B1 A}, Ps X.K W.L it.qt (!m && it.isPl) F B H r1 o σ v H1 F1 B1 A → ∃ a xs, v = .ref a ∧ SqH o.kind X.K H1 a xs ∧ WkI X.K F1 A H1 (itl o.kind X.K a) ds ∧ (m = true → ∀ a ∈ A, a ∉ B1) := by
          intro F B H σ H1 v F1 B1 A p
          obtain ⟨a, xs, rfl, h1, h2, h3⟩ := sq_of p.ro eo
          refine ⟨a, xs, rfl, h1, wk_itl h2 h3, fun hm b hb hb1 => ?_⟩
          obtain ⟨f1, _, _⟩ := p.fr (by rw [hm]; rfl)
          exact (List.nodup_append.mp f1).2.2 b hb1 b hb rfl
        cases ek : o.kind with
        | l =>
          refine pi_wk (pi_list pe) fun σ H R q => ?_
          obtain ⟨F, B, s, q⟩ := tSrc_mk q
          refine ⟨F, B, _, _, s, ea, fun v H1 F1 B1 A p => ?_⟩
          obtain ⟨a, xs, rfl, h1, h2, h3⟩ := go p
          rw [ek] at h1 h2
          exact ⟨a, rfl, ⟨xs, h1⟩, q _ H1 F1 B1 A p.tr p.st p.quiet h2 h3⟩
        | t =>
          refine pi_wk (pi_tup pe) fun σ H R q => ?_
          obtain ⟨F, B, s, q⟩ := tSrc_mk q
          refine ⟨F, B, _, _, s, ea, fun v H1 F1 B1 A p => ?_⟩
          obtain ⟨a, xs, rfl, h1, h2, h3⟩ := go p
          rw [ek] at h1 h2
          exact ⟨a, rfl, ⟨xs, h1⟩, q _ H1 F1 B1 A p.tr p.st p.quiet h2 h3⟩
  | enm =>
    unfold srcB at h
    simp only at h
    split at h <;> try (cases h; done)
    rename_i x p e pos elts kk tpos
    simp only [Bool.and_eq_true, decide_eq_true_eq] at h
    obtain ⟨⟨⟨⟨rfl, h2⟩, h3⟩, h4⟩, he⟩ := h
    refine ⟨fun _ => rfl, ?_⟩
    have hp := mt_plain (W := W) he
    unfold srcO
    simp only
    cases ea : W.ev m it r with
    | none => exact pi_bot fun σ H R => tSrc_none
    | some p =>
      obtain ⟨o, r1⟩ := p
      simp only
      cases eo : o.its with
      | none => exact pi_bot fun σ H R => tSrc_none
      | some ds =>
        refine pi_wk (pi_en (gl_of g.sc h2) (g.frs _ (by simpa using h4)) (pa_cons (ha m r X sc sc0 e g he) pa_nil (starE hp)) (starE hp)) fun σ H R q => ?_
        obtain ⟨F, B, s, q⟩ := tSrc_mk q
        refine ⟨F, B, _, _, s, ea, fun v H1 F1 B1 A p => ?_⟩
        obtain ⟨a, xs, rfl, h1, h2, h3⟩ := sq_of p.ro eo
        refine ⟨o.kind, a, xs, rfl, h1, q _ H1 F1 B1 A p.tr p.st p.quiet (wk_enum o.kind h2 h3) fun hm b hb hb1 => ?_⟩
        obtain ⟨f1, _, _⟩ := p.fr (by rw [hm]; rfl)
        exact (List.nodup_append.mp f1).2.2 b hb1 b hb rfl
  | rng =>
    unfold srcB at h
    simp only at h
    split at h <;> try (cases h; done)
    rename_i x p es pos
    simp only [Bool.and_eq_true, decide_eq_true_eq] at h
    obtain ⟨⟨⟨⟨rfl, h2⟩, h3⟩, h4⟩, he⟩ := h
    refine ⟨fun _ => rfl, ?_⟩
    obtain ⟨hp, _, pa⟩ := hs m r X sc sc0 es g he
    unfold srcO
    by_cases hn : (inos it).all (·.isNone) = true
    case neg =>
      rw [if_neg hn]
      exact pi_bot fun σ H R => tSrc_none
    rw [if_pos hn]
    simp only
    have hcnt := mts_cnt he
    cases ea : W.evs m it r with
    | none => exact pi_bot fun σ H R => tSrc_none
    | some p =>
      obtain ⟨os, r1⟩ := p
      simp only
      cases eo : rngE os with
      | none => exact pi_bot fun σ H R => tSrc_none
      | some ds =>
        have hlen := evs_cnt ea
        unfold rngE at eo
        split at eo <;> try (cases eo; done)
        · rename_i b
          split at eo <;> try (cases eo; done)
          rename_i hsm
          simp only [Option.some.injEq] at eo
          subst eo
          simp only [small, Bool.and_eq_true, decide_eq_true_eq] at hsm
          have hl : es.length = 1 := by rw [← hcnt, ← hlen]; rfl
          obtain ⟨e0, rfl⟩ : ∃ e0, es = [e0] := by
            cases es with
            | nil => cases hl
            | cons e0 es =>
              cases es with
              | nil => exact ⟨e0, rfl⟩
              | cons _ _ => simp at hl
          rw [List.all_cons, Bool.and_eq_true] at hp
          refine pi_wk (pi_range1 (gl_of g.sc h2) (g.frs _ (by simpa using h4)) pa (starE hp.1)) fun σ H R q => ?_
          obtain ⟨F, B, s, q⟩ := tSrc_mk q
          refine ⟨F, B, _, _, s, ea, fun vs H1 F1 B1 A p => ?_⟩
          have ro := roi_rol hn p.ro
          simp only [ROL] at ro
          obtain ⟨x, ys, C1, C2, rfl, r1', ⟨rfl, rfl⟩, rfl⟩ := ro
          have ex := ro_rp r1'
          simp only [Rp] at ex
          subst ex
          refine ⟨b, rfl, hsm.1, hsm.2, q _ H1 F1 B1 [] p.tr p.st (fun h => (p.qt h).1) ?_ fun _ => by simp⟩
          have := wk_rng (K := X.K) (F := F1) (H := H1) (C := []) 0 b.toNat
          unfold rngI
          rw [if_pos rfl]
          simpa using this
        · rename_i a b
          split at eo <;> try (cases eo; done)
          rename_i hsm
          simp only [Option.some.injEq] at eo
          subst eo
          simp only [small, Bool.and_eq_true, decide_eq_true_eq] at hsm
          have hl : es.length = 2 := by rw [← hcnt, ← hlen]; rfl
          obtain ⟨e0, e1, rfl⟩ : ∃ e0 e1, es = [e0, e1] := by
            match es, hl with
            | [e0, e1], _ => exact ⟨e0, e1, rfl⟩
          rw [List.all_cons, Bool.and_eq_true, List.all_cons, Bool.and_eq_true] at hp
          refine pi_wk (pi_range2 (gl_of g.sc h2) (g.frs _ (by simpa using h4)) pa (by rw [starE hp.1, starE hp.2.1]; rfl) (starE hp.2.1)) fun σ H R q => ?_
          obtain ⟨F, B, s, q⟩ := tSrc_mk q
          refine ⟨F, B, _, _, s, ea, fun vs H1 F1 B1 A p => ?_⟩
          have ro := roi_rol hn p.ro
          simp only [ROL] at ro
          obtain ⟨x, ys, C1, C2, rfl, r1', ⟨y, zs, C3, C4, rfl, r2', ⟨rfl, rfl⟩, rfl⟩, rfl⟩ := ro
          have ex := ro_rp r1'
          have ey := ro_rp r2'
          simp only [Rp] at ex ey
          subst ex
          subst ey
          refine ⟨a, b, rfl, ⟨hsm.1.1, hsm.1.2, hsm.2.1, hsm.2.2⟩, q _ H1 F1 B1 [] p.tr p.st (fun h => (p.qt h).1) ?_ fun _ => by simp⟩
          unfold rngI
          rw [if_pos rfl]
          exact wk_rng a (b - a).toNat
        · rename_i a b
          split at eo <;> try (cases eo; done)
          rename_i hsm
          simp only [Option.some.injEq] at eo
          subst eo
          simp only [small, Bool.and_eq_true, decide_eq_true_eq] at hsm
          have hl : es.length = 3 := by rw [← hcnt, ← hlen]; rfl
          obtain ⟨e0, e1, e2, rfl⟩ : ∃ e0 e1 e2, es = [e0, e1, e2] := by
            match es, hl with
            | [e0, e1, e2], _ => exact ⟨e0, e1, e2, rfl⟩
          have hp' := hp
          rw [List.all_cons, Bool.and_eq_true] at hp
          refine pi_wk (pi_range3 (gl_of g.sc h2) (g.frs _ (by simpa using h4)) pa (starE hp.1) (starAll hp.2)) fun σ H R q => ?_
          obtain ⟨F, B, s, q⟩ := tSrc_mk q
          refine ⟨F, B, _, _, s, ea, fun vs H1 F1 B1 A p => ?_⟩
          have ro := roi_rol hn p.ro
          simp only [ROL] at ro
          obtain ⟨x, ys, C1, C2, rfl, r1', ⟨y, zs, C3, C4, rfl, r2', ⟨z, ws, C5, C6, rfl, r3', ⟨rfl, rfl⟩, rfl⟩, rfl⟩, rfl⟩ := ro
          have ex := ro_rp r1'
          have ey := ro_rp r2'
          have ez := ro_rp r3'
          simp only [Rp] at ex ey ez
          subst ex
          subst ey
          subst ez
          refine ⟨a, b, -1, (a - b).toNat, rfl, RgC.neg hsm.1.1 hsm.1.2 hsm.2.1 hsm.2.2, q _ H1 F1 B1 [] p.tr p.st (fun h => (p.qt h).1) ?_ fun _ => by simp⟩
          unfold rngI
          rw [if_neg (by decide)]
          exact wk_rngC a (-1) (a - b).toNat
  | zip =>
    unfold srcB at h
    simp only at h
    split at h <;> try (cases h; done)
    rename_i x p es pos elts kk tpos
    simp only [Bool.and_eq_true, decide_eq_true_eq] at h
    obtain ⟨⟨⟨⟨rfl, h2⟩, h3⟩, h4⟩, he⟩ := h
    refine ⟨fun _ => rfl, ?_⟩
    obtain ⟨hp, _, pa⟩ := hs m r X sc sc0 es g he
    unfold srcO
    by_cases hn : (inos it).all (·.isNone) = true
    case neg =>
      rw [if_neg hn]
      exact pi_bot fun σ H R => tSrc_none
    rw [if_pos hn]
    simp only
    have hcnt := mts_cnt he
    cases ea : W.evs m it r with
    | none => exact pi_bot fun σ H R => tSrc_none
    | some p =>
      obtain ⟨os, r1⟩ := p
      simp only
      cases eo : zipE os with
      | none => exact pi_bot fun σ H R => tSrc_none
      | some ds =>
        have hlen := evs_cnt ea
        unfold zipE at eo
        split at eo <;> try (cases eo; done)
        · rename_i a b
          split at eo <;> try (cases eo; done)
          rename_i d1 d2 i1 i2
          simp only [Option.some.injEq] at eo
          subst eo
          have hl : es.length = 2 := by rw [← hcnt, ← hlen]; rfl
          obtain ⟨e0, e1, rfl⟩ : ∃ e0 e1, es = [e0, e1] := by
            match es, hl with
            | [e0, e1], _ => exact ⟨e0, e1, rfl⟩
          rw [List.all_cons, Bool.and_eq_true] at hp
          refine pi_wk (pi_z2 (gl_of g.sc h2) (g.frs _ (by simpa using h4)) pa (starE hp.1) (starAll hp.2)) fun σ H R q => ?_
          obtain ⟨F, B, s, q⟩ := tSrc_mk q
          refine ⟨F, B, _, _, s, ea, fun vs H1 F1 B1 A p => ?_⟩
          have ro := roi_rol hn p.ro
          simp only [ROL] at ro
          obtain ⟨x, ys, C1, C2, rfl, r1', ⟨y, zs, C3, C4, rfl, r2', ⟨rfl, rfl⟩, rfl⟩, rfl⟩ := ro
          obtain ⟨a1, xs1, rfl, g1, g2, g3⟩ := sq_of r1' i1
          obtain ⟨a2, xs2, rfl, f1, f2, f3⟩ := sq_of r2' i2
          refine ⟨a.kind, b.kind, a1, a2, xs1, xs2, rfl, g1, f1, q _ H1 F1 B1 (C1 ++ C3) p.tr p.st (fun h => (p.qt h).1) (wk_z2 a.kind b.kind g2 g3 f2 f3) fun hm c hc hb => ?_⟩
          obtain ⟨n1, _, _⟩ := p.fr hm
          exact (List.nodup_append.mp n1).2.2 c hb c (by simpa using hc) rfl
        · rename_i a b c
          split at eo <;> try (cases eo; done)
          rename_i d1 d2 d3 i1 i2 i3
          simp only [Option.some.injEq] at eo
          subst eo
          have hl : es.length = 3 := by rw [← hcnt, ← hlen]; rfl
          obtain ⟨e0, e1, e2, rfl⟩ : ∃ e0 e1 e2, es = [e0, e1, e2] := by
            match es, hl with
            | [e0, e1, e2], _ => exact ⟨e0, e1, e2, rfl⟩
          rw [List.all_cons, Bool.and_eq_true] at hp
          refine pi_wk (pi_z3 (gl_of g.sc h2) (g.frs _ (by simpa using h4)) pa (starE hp.1) (starAll hp.2)) fun σ H R q => ?_
          obtain ⟨F, B, s, q⟩ := tSrc_mk q
          refine ⟨F, B, _, _, s, ea, fun vs H1 F1 B1 A p => ?_⟩
          have ro := roi_rol hn p.ro
          simp only [ROL] at ro
          obtain ⟨x, ys, C1, C2, rfl, r1', ⟨y, zs, C3, C4, rfl, r2', ⟨z, ws, C5, C6, rfl, r3', ⟨rfl, rfl⟩, rfl⟩, rfl⟩, rfl⟩ := ro
          obtain ⟨a1, xs1, rfl, g1, g2, g3⟩ := sq_of r1' i1
          obtain ⟨a2, xs2, rfl, f1, f2, f3⟩ := sq_of r2' i2
          obtain ⟨a3, xs3, rfl, k1, k2, k3⟩ := sq_of r3' i3
          refine ⟨a.kind, b.kind, c.kind, a1, a2, a3, xs1, xs2, xs3, rfl, g1, f1, k1, q _ H1 F1 B1 (C1 ++ (C3 ++ C5)) p.tr p.st (fun h => (p.qt h).1) (wk_z3 a.kind b.kind c.kind g2 g3 f2 f3 k2 k3) fun hm c hc hb => ?_⟩
          obtain ⟨n1, _, _⟩ := p.fr hm
          exact (List.nodup_append.mp n1).2.2 c hb c (by simpa using hc) rfl
end
end Mi

end
section
set_option maxHeartbeats 2000000
/-! Mi26: comprehensions. -/
namespace Mi
open PySem L2
section
variable {W : Wd} {K : PySem.W.Frag} {L : Nat → Addr → Prop} {F F1 F2 : Fz} {H H1 H2 : Hp} {r r1 r2 : En} {σ : St} {B B1 B2 A1 A2 : List Addr}
theorem pe_ex {ι : Type} {X : Cx} {e : Expr} {t : ι → TE} (h : ∀ i, PE X e (t i)) : PE X e (fun σ H Q => ∃ i, t i σ H Q) := ⟨fun pins s σ H Q I ⟨i, q⟩ => (h i).run pins s σ H Q I q⟩
theorem pt_ex {ι : Type} {X : Cx} {e : Expr} {t : ι → TT} (h : ∀ i, PT X e (t i)) : PT X e (fun σ H Q => ∃ i, t i σ H Q) := ⟨fun pins s σ H Q I ⟨i, q⟩ => (h i).run pins s σ H Q I q⟩
theorem pg_ex {ι : Type} {X : Cx} {e : Expr} {t : ι → TG} (h : ∀ i, PG X e (t i)) : PG X e (fun v σ H Q => ∃ i, t i v σ H Q) := ⟨fun pins s σ H v u Q I rv ⟨i, q⟩ => (h i).run pins s σ H v u Q I rv q⟩
/-- what stands apart from the names stays apart -/
theorem Tr.far (t : Tr F B H F1 B1 H1) {a : Addr} {u : HO} (h : H a = some u) (hb : a ∉ B) (hf : ¬ F a) : H1 a = some u ∧ a ∉ B1 ∧ ¬ F1 a := by
  refine ⟨t.e2 a u h hb, fun q => ?_, fun q => ?_⟩
  · rcases t.nb a q with q | q
    · exact hb q
    · rw [h] at q; cases q
  · rcases t.e3 a q with q | q | q
    · exact hf q
    · exact hb q
    · rw [h] at q; cases q
theorem gd_blk {X : Cx} {sc sc0 : Scope} (g : W.G X sc sc0) (s : Shared) (H : Hp) (scope : Scope) (C : Addr) (cl : List (Str × Addr)) (fp : List Addr) : W.G (X.blk s H scope (compEnvC scope cl C X.env) fp) (relS scope sc) scope where
  calm := g.calm
  nd := g.nd
  gu := g.gu
  room := g.room
  sc := by rw [← g.sc]; rfl
  fnl := fun x hx => by
    unfold locB at hx
    split at hx
    · rename_i e
      have := lookup_relS_keep (sc := X.env.scope) (k := .local) (by decide) e
      exact ⟨.inl this, .inr this⟩
    · rename_i e
      have := lookup_relS_keep (sc := X.env.scope) (k := .cell) (by decide) e
      refine ⟨.inr this, .inl ?_⟩
      show (scope.names.lookup x == some .cell) = true
      rw [e]; rfl
    · cases hx
  fns := g.fns
  frs := g.frs
  gls := g.gls
theorem lc_parts {e it c : T} {g : G} {k : Sk} {own : List (Str × Nat)} (he : SE W e) (hit : SE W it) (hits : SA W it) (hc : ST W c) (m : Bool) (r : En) {X : Cx} {sc sc0 : Scope} {elt tg iter : Expr} {ifs : List Expr} {scope : Scope} {pos : Pos} (gd : W.G X sc sc0)
    (h : W.mt X.N sc (.lc e g k it c own) (.ListComp elt [⟨tg, iter, ifs, 0⟩] scope pos) = true) : W.ev m (.lc e g k it c own) r = none ∨ ∃ (wi : TI) (g' : TG) (tt : TT) (te : TE), PI X tg iter wi ∧ BlkOk X.N X.env.scope scope own ∧
    (∀ (s : Shared) (H : Hp) (C : Addr) (cl : List (Str × Addr)) (fp : List Addr), PG (X.blk s H scope (compEnvC scope cl C X.env) fp) tg g') ∧ (∀ (s : Shared) (H : Hp) (C : Addr) (cl : List (Str × Addr)) (fp : List Addr), PTs (X.blk s H scope (compEnvC scope cl C X.env) fp) ifs tt) ∧
    (∀ (s : Shared) (H : Hp) (C : Addr) (cl : List (Str × Addr)) (fp : List Addr), PE (X.blk s H scope (compEnvC scope cl C X.env) fp) elt te) ∧ (∀ x, foldedSetIterable iter X.env x = pure x) ∧
    ∀ σ H Q, tR X.K W.L (T.lc e g k it c own).qt false r (W.ev m (.lc e g k it c own) r) σ H Q → tLc wi g' tt te (own.map (·.2)) σ H Q := by
  simp only [Wd.mt, mt] at h
  rw [Bool.and_eq_true, Bool.and_eq_true, Bool.and_eq_true, Bool.and_eq_true, Bool.and_eq_true] at h
  obtain ⟨⟨⟨⟨⟨hsrc, hblk⟩, htg⟩, hslots⟩, hifs⟩, helt⟩ := h
  have hsc := gd.sc
  obtain ⟨hset, psrc⟩ := src_ok hit hits gd (!(e.qt && c.qt)) r hsrc
  simp only [Wd.ev, ev]
  generalize hfT : (fun (d : D) (r : En) => match bnd g (.val d) r with
          | some r2 => match ev W.gl W.cf false c r2 with
            | some (.val (.bool true), r3) => match ev W.gl W.cf true e r3 with
              | some (o, r4) => some (some o, wip r4 (own.map fun (p : Str × Nat) => p.2))
              | none => none
            | some (.val (.bool false), r3) => some (none, wip r3 (own.map fun (p : Str × Nat) => p.2))
            | _ => none
          | none => none) = fT
  split
  · rename_i ds r1 esrc
    by_cases hpl : (own.all fun p => plainAt r1 p.2) = true
    · rw [if_pos hpl]
      split
      · rename_i os r2 ego
        by_cases hz : os.length ≤ sizeLine
        · rw [if_pos hz]
          have hpts : ∀ (s : Shared) (H : Hp) (C : Addr) (cl : List (Str × Addr)) (fp : List Addr), PTs (X.blk s H scope (compEnvC scope cl C X.env) fp) ifs (fun σ H Q => ∃ rX, tT X.K W.L c.qt rX (W.ev false c rX) σ H Q) := by
            intro s0 H0 C0 cl fp
            cases ifs with
            | nil =>
              have : c = .con (.bool true) := by
                cases c with
                | con d =>
                  cases d with
                  | bool b => cases b <;> first
                    | rfl
                    | cases hifs
                  | _ => cases hifs
                | _ => cases hifs
              subst this
              refine ⟨fun pins s σ H Q I q => pts_nil.run pins s σ H Q I ?_⟩
              obtain ⟨rX, F, B, b, r', s', e', q⟩ := q
              simp only [Wd.ev, ev, Option.some.injEq, Prod.mk.injEq, O.val.injEq, PyData.bool.injEq] at e'
              obtain ⟨rfl, rfl⟩ := e'
              exact q H F B Tr.refl s' fun _ => rd_refl
            | cons c1 ifs =>
              cases ifs with
              | cons _ _ => cases hifs
              | nil =>
                simp only [Bool.and_eq_true] at hifs
                exact pts_one (pt_ex fun rX => hc hifs.1 rX _ _ _ c1 (gd_blk gd s0 H0 scope C0 cl fp) hifs.2)
          refine .inr ⟨_, fun v σ H Q => ∃ p : PyData × En, tG X.K W.L g (.val p.1) p.2 v σ H Q, fun σ H Q => ∃ rX, tT X.K W.L c.qt rX (W.ev false c rX) σ H Q, fun σ H Q => ∃ rX, tR X.K W.L e.qt false rX (W.ev true e rX) σ H Q, psrc, blkOk_by (own := own) (by rw [hsc]; exact hblk),
            fun s H C cl fp => pg_ex fun p => pg_ok (X := X.blk s H scope (compEnvC scope cl C X.env) fp) gd.calm gd.nd (gd_blk gd s H scope C cl fp).fnl g (.val p.1) p.2 tg htg, hpts,
            fun s H C cl fp => pe_ex fun rX => he true rX _ _ _ elt (gd_blk gd s H scope C cl fp) helt, hset, fun σ H Q q => ?_⟩
          obtain ⟨F, B, s, q⟩ := tR_mk q
          refine ⟨F, B, ds, r1, s, esrc, fun J H1 F1 B1 C t1 s1 q1 wk hC => fun D hD => ?_⟩
          obtain ⟨Gp, Y, w, hG, hY⟩ := wk
          obtain ⟨Bw, sw, hBw⟩ := wip_ok s1 (own.map (·.2))
          have liveB1 : ∀ a ∈ B1, H1 a ≠ none := fun a ha => by
            obtain ⟨xs, e⟩ := s1.lists ha
            rw [e]; simp
          refine lc_it (g := fun v σ H Q => ∃ p : PyData × En, tG X.K W.L g (.val p.1) p.2 v σ H Q) (tt := fun σ H Q => ∃ rX, tT X.K W.L c.qt rX (W.ev false c rX) σ H Q) (te := fun σ H Q => ∃ rX, tR X.K W.L e.qt false rX (W.ev true e rX) σ H Q) (vs := own.map (·.2)) (σ := σ) (H1 := H1) (D := D) (Qd := Q (.ref D)) w (fun i Hc => ∃ F' Bc rc dn vd Ad rest, Stt X.K W.L F' Hc rc (wipe σ (own.map (·.2))) Bc ∧ Tr F1 B1 H1 F' Bc Hc ∧ lcGo fT (ds.drop i) rc = some (rest, r2) ∧ os = dn ++ rest ∧ Hc D = some (.lst vd) ∧
              ROL X.K W.L F' Hc dn vd Ad ∧ (Bc ++ D :: Ad).Nodup ∧ (∀ a ∈ D :: Ad, ¬ F' a ∧ (a ∈ B1 ∨ H1 a = none)) ∧ ((e.qt && c.qt) = true → (∀ a u, H1 a = some u → Hc a = some u) ∧ ∀ a ∈ Ad, H1 a = none)) ?_ ?_ ?_ ?_
          · refine ⟨F1, Bw, wip r1 (own.map (·.2)), [], [], [], os, sw.same (same_new hD), (Tr.same (same_new hD)).withB fun a ha => .inl (hBw a ha), (by rw [List.drop_zero]; exact ego), rfl, upd_same, by simp [ROL], ?_, ?_, fun _ => ⟨same_new hD, by simp⟩⟩
            · refine List.nodup_append.mpr ⟨sw.nd, by simp, ?_⟩
              rintro a ha b hb rfl
              simp only [List.mem_singleton] at hb
              subst hb
              exact liveB1 a (hBw a ha) hD
            · intro a ha
              simp only [List.mem_singleton] at ha
              subst ha
              refine ⟨fun hf => ?_, .inr hD⟩
              obtain ⟨u, e⟩ := s1.dm a hf
              rw [hD] at e; cases e
          · rintro i Hc hi ⟨F', Bc, rc, dn, vd, Ad, rest, st, t, _, _, _, _, _, _, hq⟩
            refine hG Hc ?_
            by_cases hq0 : (e.qt && c.qt) = true
            · exact Kept.same (hq hq0).1
            · exact t.kept s1 (hC (by simp only [Bool.not_eq_true] at hq0; rw [hq0]; rfl))
          · rintro i x Hc H' hi ⟨F', Bc, rc, dn, vd, Ad, rest, st, t, eg, eos, eD, ro, nd, hfa, hq⟩ y
            obtain ⟨d, hd⟩ : ∃ d, ds[i]? = some d := ⟨ds[i], List.getElem?_eq_getElem hi⟩
            have kC : Kept C F1 H1 Hc := by
              by_cases hq0 : (e.qt && c.qt) = true
              · exact Kept.same (hq hq0).1
              · exact t.kept s1 (hC (by simp only [Bool.not_eq_true] at hq0; rw [hq0]; rfl))
            obtain ⟨gr, rp⟩ := hY i Hc x H' d kC hd y
            have edrop : ds.drop i = d :: ds.drop (i + 1) := by
              rw [List.drop_eq_getElem_cons hi]
              rw [List.getElem?_eq_getElem hi] at hd
              cases hd; rfl
            rw [edrop] at eg
            simp only [lcGo] at eg
            split at eg <;> try (cases eg; done)
            rename_i oo rn ef
            split at eg <;> try (cases eg; done)
            rename_i rest' r2' eg'
            simp only [Option.some.injEq, Prod.mk.injEq] at eg
            obtain ⟨erest, rfl⟩ := eg
            subst hfT
            simp only at ef
            split at ef <;> try (cases ef; done)
            rename_i rb eb
            have rpF : Rp X.K F' H' d x := Rp.keep t.e1 (Kept.same rd_refl) d x rp
            refine ⟨(d, rc), F', Bc, [], rb, st.same gr, rp_ro rpF, by simpa using (List.nodup_append.mp nd).1, by simp, eb, fun σ' B' s' hb but => ⟨?_, ?_⟩⟩
            · have hsl : ∀ i ∈ g.slots, i ∈ own.map (·.2) := fun i hi => by
                rw [List.all_eq_true] at hslots
                simpa using hslots i hi
              rw [wipe_but (but.mono hsl), wipe_but (but_wipe _ _)]
            · have hw : wipe σ' (own.map (·.2)) = wipe σ (own.map (·.2)) := by
                have hsl : ∀ i ∈ g.slots, i ∈ own.map (·.2) := fun i hi => by
                  rw [List.all_eq_true] at hslots
                  simpa using hslots i hi
                rw [wipe_but (but.mono hsl), wipe_but (but_wipe _ _)]
              have apart : ∀ a ∈ D :: Ad, a ∉ B' := fun a ha hb' => by
                rcases hb a hb' with hh | hh
                · exact (List.nodup_append.mp nd).2.2 a hh a ha rfl
                · simp at hh
              have live : ∀ a ∈ D :: Ad, ∃ xs, H' a = some (.lst xs) := fun a ha => by
                rcases List.mem_cons.mp ha with rfl | ha
                · exact ⟨vd, gr _ _ eD⟩
                · obtain ⟨xs, e⟩ := ROL.own dn vd Ad ro a ha
                  exact ⟨xs, gr _ _ e⟩
              have ndA := (List.nodup_append.mp nd).2.1
              have hDA := (List.nodup_cons.mp ndA).1
              have tB : Tr F1 B1 H1 F' B' H' := (t.trans (Tr.same gr)).withB fun a ha => by
                rcases hb a ha with hh | hh
                · exact t.nb a hh
                · simp at hh
              split at ef
              · rename_i r3 ec
                split at ef <;> try (cases ef; done)
                rename_i o r4 ee
                simp only [Option.some.injEq, Prod.mk.injEq] at ef
                obtain ⟨rfl, rfl⟩ := ef
                simp only at erest
                refine ⟨rb, F', B', true, r3, s', ec, fun H2 F2 B2 t2 s2 k2 => ?_⟩
                show (if true = true then _ else _)
                rw [if_pos rfl]
                refine ⟨r3, F2, B2, o, r4, s2, ee, fun v H3 F3 B3 A3 p3 => ?_⟩
                have t3 := t2.trans p3.tr
                have far2 : ∀ a ∈ D :: Ad, ∀ u, H' a = some u → H2 a = some u ∧ a ∉ B2 ∧ ¬ F2 a := fun a ha u e => t2.far e (apart a ha) (hfa a ha).1
                have far3 : ∀ a ∈ D :: Ad, ∀ u, H' a = some u → H3 a = some u ∧ a ∉ B3 ∧ ¬ F3 a := fun a ha u e => t3.far e (apart a ha) (hfa a ha).1
                obtain ⟨f1, f2, f3⟩ := p3.fr rfl
                have eD3 := (far3 D (by simp) _ (gr _ _ eD)).1
                have hlen : os.length = dn.length + (rest'.length + 1) := by rw [eos, ← erest]; simp
                refine ⟨vd, eD3, by rw [rol_len ro]; omega, ?_⟩
                obtain ⟨B4, s4, hB4⟩ := wip_ok p3.st (own.map (·.2))
                rw [hw] at s4
                have hA3 : ∀ a ∈ D :: Ad, a ∉ A3 := fun a ha h3 => by
                  obtain ⟨xs, e⟩ := live a ha
                  obtain ⟨e2, n2, _⟩ := far2 a ha _ e
                  rcases f3 a h3 with hh | hh
                  · exact n2 hh
                  · rw [e2] at hh; cases hh
                have hD4 : D ∉ B4 := fun hh => (far3 D (by simp) _ (gr _ _ eD)).2.1 (hB4 D hh)
                have hDF := (far3 D (by simp) _ (gr _ _ eD)).2.2
                have kD : ∀ A0 : List Addr, D ∉ A0 → Kept A0 F3 H3 (upd H3 D (.lst (vd ++ [v]))) := fun A0 h0 => kept_upd eD3 hDF h0
                have ro3 : ROL X.K W.L F3 H3 dn vd Ad := ROL.keep t3.e1 dn vd Ad (t3.kept s' fun a ha => apart a (by simp [ha])) (ROL.keep (fun _ h => h) dn vd Ad (Kept.same gr) ro)
                refine ⟨F3, B4, wip r4 (own.map (·.2)), dn ++ [o], vd ++ [v], Ad ++ A3, rest', ⟨EnvR.keep (fun _ h => h) _ _ _ (kD B4 hD4) s4.env, s4.nd, s4.df, fun a ha => ?_⟩, ?_, eg', by rw [eos, ← erest]; simp, upd_same, ?_, ?_, ?_, fun hq0 => ?_⟩
                · obtain ⟨u, e⟩ := s4.dm a ha
                  by_cases ea : a = D
                  · subst ea; exact ⟨_, upd_same⟩
                  · exact ⟨u, by rw [upd_ne ea]; exact e⟩
                · have tt := tB.trans t3
                  refine ⟨tt.e1, fun a u e hb0 => ?_, tt.e3, fun a ha => tt.nb a (hB4 a ha)⟩
                  have ea : a ≠ D := by rintro rfl; rw [hD] at e; cases e
                  rw [upd_ne ea]
                  exact tt.e2 a u e hb0
                · exact rol_app (ROL.keep (fun _ h => h) dn vd Ad (kD Ad hDA) ro3) (RO.keep (fun _ h => h) o v A3 (kD A3 (hA3 D (by simp))) p3.ro)
                · have nd4 : (B4 ++ A3).Nodup := List.nodup_append.mpr ⟨s4.nd, (List.nodup_append.mp f1).2.1, fun a ha b hb' => (List.nodup_append.mp f1).2.2 a (hB4 a ha) b hb'⟩
                  exact nodup3 (A := D :: Ad) nd4 ndA fun a ha hb' => by
                    rcases List.mem_append.mp hb' with hb' | hb'
                    · obtain ⟨xs, e⟩ := live a ha
                      exact (far3 a ha _ e).2.1 (hB4 a hb')
                    · exact hA3 a ha hb'
                · intro a ha
                  have ha : a ∈ (D :: Ad) ++ A3 := ha
                  rcases List.mem_append.mp ha with ha | ha
                  · obtain ⟨xs, e⟩ := live a ha
                    exact ⟨(far3 a ha _ e).2.2, (hfa a ha).2⟩
                  · refine ⟨f2 a ha, ?_⟩
                    rcases f3 a ha with hh | hh
                    · exact (tB.trans t2).nb a hh
                    · exact (tB.trans t2).none_of hh
                · have hq1 := hq hq0
                  have hqq := hq0
                  rw [Bool.and_eq_true] at hqq
                  have g3 : ∀ a u, H1 a = some u → H3 a = some u := fun a u e => (p3.quiet hqq.1) a u (k2 hqq.2 a u (gr a u (hq1.1 a u e)))
                  refine ⟨fun a u e => ?_, fun a ha => ?_⟩
                  · have ea : a ≠ D := by rintro rfl; rw [hD] at e; cases e
                    rw [upd_ne ea]
                    exact g3 a u e
                  · rcases List.mem_append.mp ha with ha | ha
                    · exact hq1.2 a ha
                    · have h2 := (p3.qt hqq.1).2 rfl a ha
                      cases e : H1 a with
                      | none => rfl
                      | some u => rw [k2 hqq.2 a u (gr a u (hq1.1 a u e))] at h2; cases h2
              · rename_i r3 ec
                simp only [Option.some.injEq, Prod.mk.injEq] at ef
                obtain ⟨rfl, rfl⟩ := ef
                simp only at erest
                refine ⟨rb, F', B', false, r3, s', ec, fun H2 F2 B2 t2 s2 k2 => ?_⟩
                show (if false = true then _ else _)
                rw [if_neg (by decide)]
                have far2 : ∀ a ∈ D :: Ad, ∀ u, H' a = some u → H2 a = some u ∧ a ∉ B2 ∧ ¬ F2 a := fun a ha u e => t2.far e (apart a ha) (hfa a ha).1
                obtain ⟨B4, s4, hB4⟩ := wip_ok s2 (own.map (·.2))
                rw [hw] at s4
                have ro2 : ROL X.K W.L F2 H2 dn vd Ad := ROL.keep t2.e1 dn vd Ad (t2.kept s' fun a ha => apart a (by simp [ha])) (ROL.keep (fun _ h => h) dn vd Ad (Kept.same gr) ro)
                refine ⟨F2, B4, wip r3 (own.map (·.2)), dn, vd, Ad, rest', s4, (tB.trans t2).withB fun a ha => (tB.trans t2).nb a (hB4 a ha), eg', by rw [eos, ← erest], (far2 D (by simp) _ (gr _ _ eD)).1, ro2, ?_, ?_, fun hq0 => ?_⟩
                · refine List.nodup_append.mpr ⟨s4.nd, ndA, ?_⟩
                  rintro a ha b hb' rfl
                  obtain ⟨xs, e⟩ := live a hb'
                  exact (far2 a hb' _ e).2.1 (hB4 a ha)
                · intro a ha
                  obtain ⟨xs, e⟩ := live a ha
                  exact ⟨(far2 a ha _ e).2.2, (hfa a ha).2⟩
                · have hq1 := hq hq0
                  have hqq := hq0
                  rw [Bool.and_eq_true] at hqq
                  exact ⟨fun a u e => k2 hqq.2 a u (gr a u (hq1.1 a u e)), hq1.2⟩
              · cases ef
          · rintro Hc ⟨F', Bc, rc, dn, vd, Ad, rest, st, t, eg, eos, eD, ro, nd, hfa, hq⟩
            rw [List.drop_length] at eg
            simp only [lcGo, Option.some.injEq, Prod.mk.injEq] at eg
            obtain ⟨rfl, rfl⟩ := eg
            rw [List.append_nil] at eos
            subst eos
            obtain ⟨B', st', hB'⟩ := back_ok s1 t.e1 (t.kept s1 (A := []) (by simp)) (own.map (·.2)) rc _ Bc (by simpa [List.all_map] using hpl) st (but_wipe _ _)
            have tt := t1.trans t
            suffices hp : Ps X.K W.L _ false F B H _ (.lst os) _ (.ref D) Hc F' B' (D :: Ad) by
              obtain ⟨F2, A2, p2⟩ := fz_ps m hp
              exact q _ _ F2 B' A2 p2
            refine ⟨tt.withB fun a ha => tt.nb a (hB' a ha), st', ?_, fun _ => ⟨?_, fun a ha => (hfa a ha).1, fun a ha => ?_⟩, (fun hh => nomatch hh), fun hq0 => ?_⟩
            · simp only [RO]
              exact ⟨D, vd, Ad, rfl, eD, ro, rfl⟩
            · have := List.nodup_append.mp nd
              exact List.nodup_append.mpr ⟨st'.nd, this.2.1, fun a ha b hb' => this.2.2 a (hB' a ha) b hb'⟩
            · rcases (hfa a ha).2 with hh | hh
              · exact t1.nb a hh
              · exact t1.none_of hh
            · simp only [T.qt, Bool.and_eq_true] at hq0
              have hq1 := hq (by rw [hq0.1.1, hq0.2]; rfl)
              have g1 := q1 hq0.1.2
              refine ⟨fun a u e => hq1.1 a u (g1 a u e), fun _ a ha => ?_⟩
              have h1 : H1 a = none := by
                rcases List.mem_cons.mp ha with rfl | ha
                · exact hD
                · exact hq1.2 a ha
              cases e : H a with
              | none => rfl
              | some u => rw [g1 a u e] at h1; cases h1
        · rw [if_neg hz]
          exact .inl rfl
      · exact .inl rfl
    · rw [if_neg hpl]
      exact .inl rfl
  · exact .inl rfl
theorem snd_lc {e it c : T} {g : G} {k : Sk} {own : List (Str × Nat)} (he : SE W e) (hit : SE W it) (hits : SA W it) (hc : ST W c) : SE W (.lc e g k it c own) := by
  intro m r X sc sc0 ex gd h
  rw [not_pl (t := .lc e g k it c own) rfl]
  have h' := h
  simp only [Wd.mt, mt] at h'
  split at h' <;> try (cases h'; done)
  rcases lc_parts he hit hits hc m r gd h with h0 | ⟨wi, g', tt, te, p1, p2, p3, p4, p5, p6, p7⟩
  · rw [h0]
    exact pe_bot fun σ H Q => tR_none
  · exact pe_wk (pe_lc gd.calm gd.nd p1 p2 p3 p4 p5 p6) p7
end
end Mi

end
section
set_option maxHeartbeats 2000000
/-! Mi27: tests; all expressions. -/
namespace Mi
open PySem L2
section
variable {W : Wd} {K : PySem.W.Frag} {L : Nat → Addr → Prop} {F F1 F2 : Fz} {H H1 H2 : Hp} {r r1 r2 : En} {σ : St} {B B1 B2 A1 A2 : List Addr}
theorem tT_none {q : Bool} {Q : Bool → Hp → Prop} : ¬ tT K L q r none σ H Q := by
  rintro ⟨F, B, b, r', _, e, _⟩
  cases e
theorem tT_tR {q pl : Bool} {res : Option (O × En)} {Q : Bool → Hp → Prop} (h : tT K L q r res σ H Q) : tR K L q pl r res σ H (fun x H' => ∃ k, x = .bl k ∧ Q k H') := by
  obtain ⟨F, B, b, r', s, e, q⟩ := h
  exact ⟨F, B, _, r', s, e, fun v H' F' B' A p => ⟨b, p.bool, q H' F' B' p.tr p.st p.quiet⟩⟩
def genE : Expr → Bool
  | .UnaryOp .Not _ _ => false
  | .BoolOp _ _ _ => false
  | .IfExp _ _ _ _ => false
  | .Compare _ _ _ _ => false
  | _ => true
theorem gen_true {e : Expr} (h : genE e = true) (env : Env) (whole : Sem Value) : isTrue e env whole = (do let v ← whole; standAt e.pos; holding [v] (truthy v)) := by
  cases e
  case UnaryOp op a p => cases op <;> first
    | rfl
    | cases h
  all_goals first
    | rfl
    | cases h
theorem st_of {t : T} (h : SE W t) (hg : ∀ (N : List Str) (sc : Scope) (e : Expr), W.mt N sc t e = true → genE e = true) : ST W t := by
  intro _ r X sc sc0 e g he
  refine pt_wk (pt_val (h false r X sc sc0 e g he) (fun whole => gen_true (hg _ _ _ he) _ _)) fun σ H Q q => ?_
  exact tT_tR q
theorem st_cmp {op : Cop} {a b : T} (ha : SE W a) (hb : SE W b) : ST W (.cmp op a b) := by
  intro _ r X sc sc0 e g h
  simp only [Wd.mt, mt] at h
  split at h <;> try (cases h; done)
  rename_i x oo y pos
  simp only [Bool.and_eq_true, Bool.not_eq_true'] at h
  obtain ⟨⟨⟨ho, hx⟩, hy⟩, hm⟩ := h
  simp only [Wd.ev, ev]
  split
  · rename_i xo r1 ea
    split
    · rename_i yo r2 eb
      split
      · rename_i hc
        split
        · rename_i d e' ed ee
          cases eo : cmpD op d e' with
          | none => exact pt_bot fun σ H Q => tT_none
          | some c =>
            obtain ⟨R, hR, hq⟩ := cmp_op (X := X) g.room.units op oo ho d e' c eo rfl
            refine pt_wk (pt_cmpR hR (ha false r X sc sc0 x g hx) (hb false r1 X sc sc0 y g hy) hm) fun σ H Q q => ?_
            obtain ⟨F, B, s, q⟩ := tR_mk (tT_tR (pl := false) q)
            refine two_ok hc s ea eb fun v1 v2 H2 F2 B2 A1 A2 t s2 o1 o2 kq => hq F2 H2 v1 v2 (o1.shv ed) (o2.shv ee) _ ?_
            exact q _ H2 F2 B2 [] (Ps.plain t s2 rfl fun hq => by rw [T.qt, Bool.and_eq_true] at hq; exact kq hq.1 hq.2)
        · exact pt_bot fun σ H Q => tT_none
      · exact pt_bot fun σ H Q => tT_none
    · exact pt_bot fun σ H Q => tT_none
  · exact pt_bot fun σ H Q => tT_none
theorem st_cmp2 {p q : Cop} {a b c : T} (ha : SE W a) (hb : SE W b) (hc : SE W c) : ST W (.cmp2 p q a b c) := by
  intro _ r X sc sc0 e g h
  simp only [Wd.mt, mt] at h
  split at h <;> try (cases h; done)
  rename_i x o1 o2 y z pos
  simp only [Bool.and_eq_true, Bool.not_eq_true'] at h
  obtain ⟨⟨⟨⟨⟨h1, h2⟩, hx⟩, hy⟩, hz⟩, hm⟩ := h
  simp only [Wd.ev, ev]
  split
  · rename_i xd r1 ea
    split
    · rename_i yd r2 eb
      split
      · rename_i ec
        obtain ⟨R, hR, hq⟩ := cmp_op (X := X) g.room.units p o1 h1 xd yd true ec rfl
        split
        · rename_i zd r3 ecc
          cases ek : cmpD q yd zd with
          | none => exact pt_bot fun σ H Q => tT_none
          | some k =>
            obtain ⟨R2, hR2, hq2⟩ := cmp_op (X := X) g.room.units q o2 h2 yd zd k ek rfl
            refine pt_wk (pt_chain hR hR2 (ha false r X sc sc0 x g hx) (hb false r1 X sc sc0 y g hy) (hc false r2 X sc sc0 z g hz) hm) fun σ H Q qq => ?_
            obtain ⟨F, B, s, qq⟩ := tR_mk (tT_tR (pl := false) qq)
            refine ⟨F, B, _, _, s, ea, fun v1 H1 F1 B1 A1 p1 => ⟨F1, B1, _, _, p1.st, eb, fun v2 H2 F2 B2 A2 p2 => ?_⟩⟩
            have k1 : Rp X.K F2 H2 xd v1 := Rp.keep p2.tr.e1 (p2.tr.kept p1.st (A := []) (by simp)) _ _ (ro_rp p1.ro)
            refine hq F2 H2 v1 v2 (Shv.of k1) (Shv.of (ro_rp p2.ro)) _ ⟨true, rfl, ?_⟩
            rw [if_pos rfl]
            refine ⟨F2, B2, _, _, p2.st, ecc, fun v3 H3 F3 B3 A3 p3 => ?_⟩
            have k2 : Rp X.K F3 H3 yd v2 := Rp.keep p3.tr.e1 (p3.tr.kept p2.st (A := []) (by simp)) _ _ (ro_rp p2.ro)
            refine hq2 F3 H3 v2 v3 (Shv.of k2) (Shv.of (ro_rp p3.ro)) _ (qq _ H3 F3 B3 [] (Ps.plain ((p1.tr.trans p2.tr).trans p3.tr) p3.st rfl ?_))
            exact quiet2 (quiet2 p1.quiet p2.quiet) p3.quiet
        · exact pt_bot fun σ H Q => tT_none
      · rename_i ec
        obtain ⟨R, hR, hq⟩ := cmp_op (X := X) g.room.units p o1 h1 xd yd false ec rfl
        have hop : ∀ f, OpR X f (fun _ _ _ _ => False) := fun f pins s σ H x y v u Q _ _ _ h => h.elim
        refine pt_wk (pt_chain hR (hop _) (ha false r X sc sc0 x g hx) (hb false r1 X sc sc0 y g hy) (hc false r2 X sc sc0 z g hz) hm) fun σ H Q qq => ?_
        obtain ⟨F, B, s, qq⟩ := tR_mk (tT_tR (pl := false) qq)
        refine ⟨F, B, _, _, s, ea, fun v1 H1 F1 B1 A1 p1 => ⟨F1, B1, _, _, p1.st, eb, fun v2 H2 F2 B2 A2 p2 => ?_⟩⟩
        have k1 : Rp X.K F2 H2 xd v1 := Rp.keep p2.tr.e1 (p2.tr.kept p1.st (A := []) (by simp)) _ _ (ro_rp p1.ro)
        refine hq F2 H2 v1 v2 (Shv.of k1) (Shv.of (ro_rp p2.ro)) _ ⟨false, rfl, ?_⟩
        rw [if_neg (by decide)]
        refine qq _ H2 F2 B2 [] (Ps.plain (p1.tr.trans p2.tr) p2.st rfl fun hh => ?_)
        rw [T.qt, Bool.and_eq_true] at hh
        exact quiet2 p1.quiet p2.quiet hh.1
      · exact pt_bot fun σ H Q => tT_none
    · exact pt_bot fun σ H Q => tT_none
  · exact pt_bot fun σ H Q => tT_none
theorem st_not {a : T} (ha : ST W a) : ST W (.not a) := by
  intro ht r X sc sc0 e g h
  simp only [Wd.mt, mt] at h
  split at h <;> try (cases h; done)
  rename_i x pos
  have p := ha ht r X sc sc0 x g h
  simp only [Wd.ev, ev]
  split
  · rename_i xo r1 ea
    cases eb : bl? xo with
    | none => exact pt_bot fun σ H Q => tT_none
    | some b =>
      have := blq eb
      subst this
      refine pt_wk (pt_not p) fun σ H Q q => ?_
      obtain ⟨F, B, b', r', s, e, q⟩ := q
      simp only [Option.map_some, Option.some.injEq, Prod.mk.injEq, O.val.injEq, PyData.bool.injEq] at e
      obtain ⟨rfl, rfl⟩ := e
      exact ⟨F, B, b, _, s, ea, fun H' F' B' t' s' q' => q H' F' B' t' s' q'⟩
  · exact pt_bot fun σ H Q => tT_none
theorem pw_of {X : Cx} {op : BoolOp} {es : List Expr} {pos : Pos} {t : TT} (h : PT X (.BoolOp op es pos) t) : PW X (.BoolOp op es pos) t := ⟨fun whole pins s σ H Q I q => h.run pins s σ H Q I q⟩
theorem and_one {X : Cx} {t : TT} {y : Expr} {rest : List Expr} {pos : Pos} {N : List Str} {sc : Scope} {b : T} (hb : ∀ e, W.mt N sc b e = true → PT X e t) (h : (match rest with
    | [] => Mi.mt N W.nm W.fr W.gl W.kwt sc b y
    | _ => Mi.mt N W.nm W.fr W.gl W.kwt sc b (.BoolOp .And (y :: rest) pos)) = true) : PW X (.BoolOp .And (y :: rest) pos) t := by
  cases rest with
  | nil => exact pw_and1 (hb y h)
  | cons z zs => exact pw_of (hb _ h)
theorem or_one {X : Cx} {t : TT} {y : Expr} {rest : List Expr} {pos : Pos} {N : List Str} {sc : Scope} {b : T} (hb : ∀ e, W.mt N sc b e = true → PT X e t) (h : (match rest with
    | [] => Mi.mt N W.nm W.fr W.gl W.kwt sc b y
    | _ => Mi.mt N W.nm W.fr W.gl W.kwt sc b (.BoolOp .Or (y :: rest) pos)) = true) : PW X (.BoolOp .Or (y :: rest) pos) t := by
  cases rest with
  | nil => exact pw_or1 (hb y h)
  | cons z zs => exact pw_of (hb _ h)
theorem st_and {a b : T} (ha : ST W a) (hb : ST W b) : ST W (.and a b) := by
  intro ht r X sc sc0 e g h
  simp only [T.tst, Bool.and_eq_true] at ht
  simp only [Wd.mt, mt] at h
  split at h <;> try (cases h; done)
  rename_i x y rest pos
  simp only [Bool.and_eq_true] at h
  obtain ⟨hx, hy⟩ := h
  have pa := ha ht.1 r X sc sc0 x g hx
  simp only [Wd.ev, ev]
  split
  · rename_i r1 ea
    have pb := and_one (W := W) (b := b) (fun e he => hb ht.2 r1 X sc sc0 e g he) hy
    split
    · rename_i c r2 eb
      refine pt_wk (pw_and pa pb).pt fun σ H Q q => ?_
      obtain ⟨F, B, b', r', s, e, q⟩ := q
      simp only [Option.some.injEq, Prod.mk.injEq, O.val.injEq, PyData.bool.injEq] at e
      obtain ⟨rfl, rfl⟩ := e
      refine ⟨F, B, true, _, s, ea, fun H' F' B' t' s' q' => ?_⟩
      show (if true = true then _ else _)
      rw [if_pos rfl]
      exact ⟨F', B', c, _, s', eb, fun H2 F2 B2 t2 s2 q2 => q H2 F2 B2 (t'.trans t2) s2 (quiet2 q' q2)⟩
    · exact pt_bot fun σ H Q => tT_none
  · rename_i r1 ea
    have pb := and_one (W := W) (b := b) (fun e he => hb ht.2 r1 X sc sc0 e g he) hy
    refine pt_wk (pw_and pa pb).pt fun σ H Q q => ?_
    obtain ⟨F, B, b', r', s, e, q⟩ := q
    simp only [Option.some.injEq, Prod.mk.injEq, O.val.injEq, PyData.bool.injEq] at e
    obtain ⟨rfl, rfl⟩ := e
    refine ⟨F, B, false, _, s, ea, fun H' F' B' t' s' q' => ?_⟩
    show (if false = true then _ else _)
    rw [if_neg (by decide)]
    exact q H' F' B' t' s' fun hh => by
      rw [T.qt, Bool.and_eq_true] at hh
      exact q' hh.1
  · exact pt_bot fun σ H Q => tT_none
theorem st_or {a b : T} (ha : ST W a) (hb : ST W b) : ST W (.or a b) := by
  intro ht r X sc sc0 e g h
  simp only [T.tst, Bool.and_eq_true] at ht
  simp only [Wd.mt, mt] at h
  split at h <;> try (cases h; done)
  rename_i x y rest pos
  simp only [Bool.and_eq_true] at h
  obtain ⟨hx, hy⟩ := h
  have pa := ha ht.1 r X sc sc0 x g hx
  simp only [Wd.ev, ev]
  split
  · rename_i r1 ea
    have pb := or_one (W := W) (b := b) (fun e he => hb ht.2 r1 X sc sc0 e g he) hy
    split
    · rename_i c r2 eb
      refine pt_wk (pw_or pa pb).pt fun σ H Q q => ?_
      obtain ⟨F, B, b', r', s, e, q⟩ := q
      simp only [Option.some.injEq, Prod.mk.injEq, O.val.injEq, PyData.bool.injEq] at e
      obtain ⟨rfl, rfl⟩ := e
      refine ⟨F, B, false, _, s, ea, fun H' F' B' t' s' q' => ?_⟩
      show (if false = true then _ else _)
      rw [if_neg (by decide)]
      exact ⟨F', B', c, _, s', eb, fun H2 F2 B2 t2 s2 q2 => q H2 F2 B2 (t'.trans t2) s2 (quiet2 q' q2)⟩
    · exact pt_bot fun σ H Q => tT_none
  · rename_i r1 ea
    have pb := or_one (W := W) (b := b) (fun e he => hb ht.2 r1 X sc sc0 e g he) hy
    refine pt_wk (pw_or pa pb).pt fun σ H Q q => ?_
    obtain ⟨F, B, b', r', s, e, q⟩ := q
    simp only [Option.some.injEq, Prod.mk.injEq, O.val.injEq, PyData.bool.injEq] at e
    obtain ⟨rfl, rfl⟩ := e
    refine ⟨F, B, true, _, s, ea, fun H' F' B' t' s' q' => ?_⟩
    show (if true = true then _ else _)
    rw [if_pos rfl]
    exact q H' F' B' t' s' fun hh => by
      rw [T.qt, Bool.and_eq_true] at hh
      exact q' hh.1
  · exact pt_bot fun σ H Q => tT_none
def _root_.Mi.T.oneE : T → Bool
  | .nil => false
  | .cons _ _ => false
  | _ => true
def _root_.Mi.T.genT : T → Bool
  | .not _ => false
  | .and _ _ => false
  | .or _ _ => false
  | .cmp _ _ _ => false
  | .cmp2 _ _ _ _ _ => false
  | .ife _ _ _ => false
  | _ => true
theorem gen_of {t : T} (ht : t.genT = true) (N : List Str) (sc : Scope) (e : Expr) (h : W.mt N sc t e = true) : genE e = true := by
  cases e
  case UnaryOp op a p =>
    cases op
    case Not => exfalso; cases t <;> first
      | (cases ht; done)
      | exact Bool.noConfusion (show false = true from h)
    all_goals rfl
  case BoolOp => exfalso; cases t <;> first
    | (cases ht; done)
    | exact Bool.noConfusion (show false = true from h)
  case IfExp => exfalso; cases t <;> first
    | (cases ht; done)
    | exact Bool.noConfusion (show false = true from h)
  case Compare => exfalso; cases t <;> first
    | (cases ht; done)
    | exact Bool.noConfusion (show false = true from h)
  all_goals rfl
/-- what is no row -/
theorem row_no {t : T} (h : t.oneE = true) : SA W t ∧ SK W t ∧ SL W t := by
  refine ⟨fun m r X sc sc0 es g h' => ?_, fun r X sc sc0 kn kws g h' => ?_, ?_⟩
  · exfalso
    cases t <;> first
      | (cases h; done)
      | exact Bool.noConfusion (show false = true from h')
  · exfalso
    cases t <;> first
      | (cases h; done)
      | exact Bool.noConfusion (show false = true from h')
  · cases t <;> first
      | trivial
      | cases h
theorem snd_mk {t : T} (h : SE W t) (hc : ST W t) (hr : t.oneE = true) : Snd W t := ⟨h, hc, (row_no hr).1, (row_no hr).2.1, (row_no hr).2.2⟩
theorem snd_gen {t : T} (h : SE W t) (hr : t.oneE = true) (ht : t.genT = true) : Snd W t := snd_mk h (st_of h (gen_of ht)) hr
theorem se_no {t : T} (h : ∀ N sc e, W.mt N sc t e = false) : SE W t := fun m r X sc sc0 e g he => by rw [h] at he; cases he
end
end Mi

end
section
set_option maxHeartbeats 2000000
/-! Mi28: all expressions. -/
namespace Mi
open PySem L2
section
/-- every expression -/
theorem snd (W : Wd) (t : T) : Snd W t := by
  refine T.rec (motive_1 := fun _ => True) (motive_2 := fun t => Snd W t) (fun _ => trivial) trivial (fun _ _ _ _ => trivial) (fun _ _ => trivial) (fun _ _ _ _ => trivial)
    ?_ ?_ ?_ ?_ ?_ ?_ ?_ ?_ ?_ ?_ ?_ ?_ ?_ ?_ ?_ ?_ ?_ ?_ ?_ ?_ ?_ ?_ ?_ ?_ ?_ ?_ ?_ ?_ ?_ ?_ ?_ t
  · exact fun i => snd_gen (snd_var i) rfl rfl
  · exact fun d => snd_gen (snd_con d) rfl rfl
  · exact fun j => snd_gen (snd_glo j) rfl rfl
  · exact fun k => snd_gen (snd_fn k) rfl rfl
  · exact fun op a b ha hb => snd_gen (snd_bin ha.e hb.e) rfl rfl
  · exact fun a ha => snd_mk (snd_not ha.e) (st_not ha.c) rfl
  · exact fun a ha => snd_gen (snd_neg ha.e) rfl rfl
  · exact fun a b ha hb => snd_mk (snd_and ha.e hb.e) (st_and ha.c hb.c) rfl
  · exact fun a b ha hb => snd_mk (snd_or ha.e hb.e) (st_or ha.c hb.c) rfl
  · exact fun op a b ha hb => snd_mk (snd_cmp ha.e hb.e) (st_cmp ha.e hb.e) rfl
  · exact fun p q a b c ha hb hc => snd_mk (snd_cmp2 ha.e hb.e hc.e) (st_cmp2 ha.e hb.e hc.e) rfl
  · exact fun c a b hc ha hb => snd_mk (snd_ife hc.c ha.e hb.e) (fun h => nomatch h) rfl
  · exact fun as ha => snd_gen (se_tup ha.a) rfl rfl
  · exact fun as ha => snd_gen (se_lst ha.a) rfl rfl
  · exact ⟨se_no fun _ _ _ => rfl, fun _ r X sc sc0 e g h => Bool.noConfusion (show false = true from h), sa_nil, sk_nil, trivial⟩
  · exact fun a s ha hs => ⟨se_no fun _ _ _ => rfl, fun _ r X sc sc0 e g h => Bool.noConfusion (show false = true from h), sa_cons ha.e hs.a, sk_cons ha.e hs.k, ha.e, hs.l⟩
  · exact fun a b ha hb => snd_gen (snd_idx ha.e hb.e) rfl rfl
  · exact fun a b c ha hb hc => snd_gen (snd_slc ha.e hb.e hc.e) rfl rfl
  · exact fun a ha => snd_gen (snd_rev ha.e) rfl rfl
  · exact fun e g k it c own he _ hit hc => snd_gen (snd_lc he.e hit.e hit.a hc.c) rfl rfl
  · exact fun k as ha => snd_gen (snd_call ha.a) rfl rfl
  · exact fun k as ks nm pm ha hk => snd_gen (snd_callk ha.a hk.k) rfl rfl
  · exact fun i => snd_gen (se_no fun _ _ _ => rfl) rfl rfl
  · exact fun b as ha => snd_gen (snd_bi ha.a) rfl rfl
  · exact fun a cs ha => snd_gen (snd_isi ha.e) rfl rfl
  · exact fun a ha => snd_gen (snd_lrg ha.e) rfl rfl
  · exact fun a b ha hb => snd_gen (snd_lrg2 ha.e hb.e) rfl rfl
  · exact fun o a _ ha => snd_gen (snd_app ha.e) rfl rfl
  · exact fun o a _ ha => snd_gen (snd_ext ha.e) rfl rfl
  · exact fun o _ => snd_gen snd_pop rfl rfl
  · exact fun o a _ ha => snd_gen (snd_popi ha.e) rfl rfl
end
end Mi

end
section
set_option maxHeartbeats 2000000
/-! Mi29: statements: the text; stores. -/
namespace Mi
open PySem L2
def isNm : Expr → Bool
  | .Name _ _ => true
  | _ => false
def notLoc (sc : Scope) : Expr → Bool
  | .Name x _ => !(sc.names.lookup x == some .local)
  | _ => false
/-- nothing is swapped -/
def notSwap (sc : Scope) (tg value : Expr) : Bool := match tg with
  | .Tuple ts _ _ => (match value with
    | .Tuple vs _ _ => !(ts.length == 2 || ts.length == 3) || vs.length != ts.length || !(ts.all isNm) || vs.all (foldedForSure 8) || ts.any (notLoc sc)
    | _ => true)
  | .List _ _ => false
  | _ => true
/-- the value is no comprehension that goes into a name at once -/
def noSw (sc : Scope) (tg : Option Expr) (value : Expr) : Bool := match value with
  | .ListComp _ _ _ _ => (match tg with
    | some (.Name t _) => !(sc.names.lookup t == some .local)
    | some _ => true
    | none => false)
  | .SetComp _ _ _ _ => false
  | .DictComp _ _ _ _ _ => false
  | _ => true
def fnB (sc : Scope) : Bool := match sc.kind with
  | .function => true
  | _ => false
/-- it goes in at once -/
def swIn (sc : Scope) (y : Str) (py : Pos) (value : Expr) : Bool := match value with
  | .ListComp _ [⟨_, _, _, 0⟩] scope pos => fnB sc && decide (sc.names.lookup y = some .local) && (py.line == pos.line) && !(scope.names.any fun (n, k) => n == y && (k == .local || k == .cell))
  | _ => false
def swap2 (sc : Scope) (x y : Str) (px py : Pos) (a b : Expr) : Bool := fnB sc && decide (sc.names.lookup x = some .local) && decide (sc.names.lookup y = some .local) && (py.line == px.line) && decide (x ≠ y) && plainE a && plainE b &&
  !(foldedForSure 8 a && foldedForSure 8 b) && !(constantsAlone 8 a && constantsAlone 8 b)
def swap3 (sc : Scope) (x y z : Str) (px py pz : Pos) (a b c : Expr) : Bool := fnB sc && decide (sc.names.lookup x = some .local) && decide (sc.names.lookup y = some .local) && decide (sc.names.lookup z = some .local) && (py.line == px.line) && (pz.line == px.line) &&
  decide (x ≠ y) && decide (x ≠ z) && decide (y ≠ z) && plainE a && plainE b && plainE c && !(foldedForSure 8 a && foldedForSure 8 b && foldedForSure 8 c) && !(constantsAlone 8 a && constantsAlone 8 b && constantsAlone 8 c)
def asgC (sc : Scope) (tg value : Expr) : Bool := match tg with
  | .Tuple [.Name x px, .Name y py] _ _ => (match value with
    | .Tuple [a, b] _ _ => swap2 sc x y px py a b
    | _ => false)
  | .Tuple [.Name x px, .Name y py, .Name z pz] _ _ => (match value with
    | .Tuple [a, b, c] _ _ => swap3 sc x y z px py pz a b c
    | _ => false)
  | _ => false
def asgB (sc : Scope) (tg value : Expr) : Bool := match tg with
  | .Name y py => swIn sc y py value
  | _ => false
def asgOk (sc : Scope) (tg value : Expr) : Bool := (notSwap sc tg value && noSw sc (some tg) value) || asgB sc tg value || asgC sc tg value
def T.isNone : T → Bool
  | .con .none => true
  | _ => false
section
variable (N : List Str) (nm : List Str) (fr : List Str) (gl : List (Str × D)) (kw : Kwt) (sc : Scope)
mutual
def mtA : G → Expr → Bool
  | .nm i, e => (match e with
    | .Name x _ => decide (N[i]? = some x) && locB sc x && nameOk x
    | _ => false)
  | .tp gs, e => (match e with
    | .Tuple es _ _ => mtAs gs es && decide (es.length = gs.len)
    | _ => false)
  | .sb o i, e => (match e with
    | .Subscript x y _ => mt N nm fr gl kw sc o x && mt N nm fr gl kw sc i y
    | _ => false)
  | _, _ => false
def mtAs : G → List Expr → Bool
  | .nil, es => es.isEmpty
  | .cons g gs, l => (match l with
    | e :: es => plainE e && mtA g e && mtAs gs es
    | _ => false)
  | _, _ => false
end
mutual
def mtS : S → Stmt → Bool
  | .set g e, st => (match st with
    | .Assign [tg] value _ => mtA N nm fr gl kw sc g tg && mt N nm fr gl kw sc e value && asgOk sc tg value
    | _ => false)
  | .aug i op e, st => (match st with
    | .AugAssign (.Name x _) o value _ => decide (N[i]? = some x) && locB sc x && nameOk x && bopB op o && mt N nm fr gl kw sc e value
    | _ => false)
  | .augs o i op e, st => (match st with
    | .AugAssign (.Subscript x y _) oo value _ => mt N nm fr gl kw sc o x && mt N nm fr gl kw sc i y && bopB op oo && mt N nm fr gl kw sc e value
    | _ => false)
  | .ex e, st => (match st with
    | .Expr value _ => mt N nm fr gl kw sc e value && noSw sc none value
    | _ => false)
  | .ret e, st => (match st with
    | .Return (some x) _ => mt N nm fr gl kw sc e x
    | .Return none _ => e.isNone
    | _ => false)
  | .ite c a b, st => (match st with
    | .If x u v _ => c.tst && mt N nm fr gl kw sc c x && mtB a u && mtB b v
    | _ => false)
  | .whl c b, st => (match st with
    | .While x u [] _ => c.tst && mt N nm fr gl kw sc c x && mtB b u
    | _ => false)
  | .for_ g k it b, st => (match st with
    | .For tg iter u [] _ => srcB sc fr k iter tg (fun u => mt N nm fr gl kw sc it u) (fun us => mts N nm fr gl kw sc it us) && mtg N sc g tg && mtB b u
    | _ => false)
  | .pass, st => (match st with
    | .Pass _ => true
    | _ => false)
  | .brk, st => (match st with
    | .Break _ => true
    | _ => false)
  | .cont, st => (match st with
    | .Continue _ => true
    | _ => false)
  | .dead, _ => true
  | .sq _ _, _ => false
  | .nop, _ => false
def mtB : S → List Stmt → Bool
  | .nop, l => l.isEmpty
  | .sq a b, l => (match l with
    | st :: rest => mtS a st && mtB b rest
    | _ => false)
  | .dead, _ => true
  | _, _ => false
end
end
theorem mtS_con0 {N nm fr gl kw sc st} : Mi.mtS N nm fr gl kw sc .dead st = true := by simp only [Mi.mtS]
theorem mtB_con0 {N nm fr gl kw sc} {l : List Stmt} : Mi.mtB N nm fr gl kw sc .nop l = l.isEmpty := by simp only [Mi.mtB]
theorem mtA_con0 {N nm fr gl kw sc e i} : Mi.mtA N nm fr gl kw sc (.nm i) e = (match e with
    | .Name x _ => decide (N[i]? = some x) && locB sc x && nameOk x
    | _ => false) := by simp only [Mi.mtA]
theorem mtAs_con0 {N nm fr gl kw sc} {l : List Expr} : Mi.mtAs N nm fr gl kw sc .nil l = l.isEmpty := by simp only [Mi.mtAs]
theorem fn_of_b {sc : Scope} (h : fnB sc = true) : sc.kind = .function := by
  unfold fnB at h
  split at h
  · assumption
  · cases h
/-! ### what the model says of them -/
theorem fm_len : ∀ {ts : List Expr} {f : Expr → Option Str}, (∀ t ∈ ts, isNm t = false → f t = none) → ts.all isNm = false → (ts.filterMap f).length < ts.length
  | [], _, _, h => by cases h
  | t :: ts, f, hf, h => by
    have hle := List.length_filterMap_le f ts
    cases ht : isNm t with
    | false =>
      rw [List.filterMap_cons, hf t (by simp) ht]
      simp only [List.length_cons]
      omega
    | true =>
      rw [List.all_cons, ht, Bool.true_and] at h
      have ih := fm_len (fun u hu => hf u (by simp [hu])) h
      rw [List.filterMap_cons]
      split
      · simp only [List.length_cons]; omega
      · simp only [List.length_cons]; omega
theorem fm_len2 : ∀ {ts : List Expr} {f : Expr → Option Str}, (∃ t ∈ ts, f t = none) → (ts.filterMap f).length < ts.length
  | [], _, h => by obtain ⟨t, ht, _⟩ := h; simp at ht
  | t :: ts, f, h => by
    have hle := List.length_filterMap_le f ts
    cases ht : f t with
    | none =>
      rw [List.filterMap_cons, ht]
      simp only [List.length_cons]
      omega
    | some x =>
      obtain ⟨u, hu, hn⟩ := h
      have hu2 : u ∈ ts := by
        rcases List.mem_cons.mp hu with rfl | hu
        · rw [hn] at ht; cases ht
        · exact hu
      have ih := fm_len2 (ts := ts) (f := f) ⟨u, hu2, hn⟩
      rw [List.filterMap_cons, ht]
      simp only [List.length_cons]
      omega
theorem swap_none' {ts vs : List Expr} {k k2 : Nat} {p p2 : Pos} {env : Env} (h : (!(ts.length == 2 || ts.length == 3) || vs.length != ts.length || !(ts.all isNm) || vs.all (foldedForSure 8) || ts.any (notLoc env.scope)) = true) : swappedStores [.Tuple ts k p] (.Tuple vs k2 p2) env = pure none := by
  unfold swappedStores
  simp only
  split
  · rfl
  · rename_i c1
    split
    · rfl
    · split
      · rfl
      · rename_i c3
        split
        · rfl
        · rename_i c4
          exfalso
          simp only [Bool.or_eq_true] at h
          rcases h with (((h | h) | h) | h) | h
          · exact c1 (by simp [h])
          · exact c1 (by simp [h])
          · refine c3 ?_
            have : ts.all isNm = false := by simpa using h
            rw [Bool.or_eq_true, bne_iff_ne]
            refine .inl (Nat.ne_of_lt (fm_len (fun t _ ht => ?_) this))
            cases t <;> first
              | rfl
              | cases ht
          · exact c4 h
          · refine c3 ?_
            rw [Bool.or_eq_true, bne_iff_ne]
            refine .inl (Nat.ne_of_lt (fm_len2 ?_))
            obtain ⟨t, ht, hn⟩ := List.any_eq_true.mp h
            refine ⟨t, ht, ?_⟩
            cases t <;> first
              | (cases hn; done)
              | skip
            rename_i id pp
            have hk : (env.kindOf id == some .local) = false := by
              have hn : (!(env.scope.names.lookup id == some .local)) = true := hn
              rw [Bool.not_eq_true'] at hn
              exact hn
            simp only [hk, Bool.false_and]
            rfl
theorem swap_two' {x y : Str} {px py p p2 : Pos} {a b : Expr} {k k2 : Nat} {env : Env} (h : swap2 env.scope x y px py a b = true) : swappedStores [.Tuple [.Name x px, .Name y py] k p] (.Tuple [a, b] k2 p2) env = pure (some [x, y]) := by
  simp only [swap2, Bool.and_eq_true, decide_eq_true_eq, beq_iff_eq, Bool.not_eq_true'] at h
  obtain ⟨⟨⟨⟨⟨⟨⟨⟨h1, h2⟩, h3⟩, h4⟩, h5⟩, h6⟩, h7⟩, h8⟩, h9⟩ := h
  have kx : env.kindOf x = some .local := h2
  have ky : env.kindOf y = some .local := h3
  have hb : env.blockKind = .function := by unfold Env.blockKind; rw [fn_of_b h1]; rfl
  unfold swappedStores
  have hd : [x, y].eraseDups.length = 2 := by
    have : (y == x) = false := by simpa using fun e => h5 e.symm
    simp [List.eraseDups_cons, this]
  have n8 : ¬ (foldedForSure 8 a = true ∧ foldedForSure 8 b = true) := fun ⟨u, v⟩ => by rw [u, v] at h8; cases h8
  have n9 : ¬ (constantsAlone 8 a = true ∧ constantsAlone 8 b = true) := fun ⟨u, v⟩ => by rw [u, v] at h9; cases h9
  simp [hb, kx, ky, h4, Expr.pos]
  refine (if_neg ?_).trans ?_
  · rintro (h | h)
    · cases a <;> first
        | (cases h6; done)
        | exact Bool.noConfusion (show false = true from h)
    · cases b <;> first
        | (cases h7; done)
        | exact Bool.noConfusion (show false = true from h)
  · rw [if_pos hd, if_neg n8, if_neg n9]
theorem swap_three {x y z : Str} {px py pz p p2 : Pos} {a b c : Expr} {k k2 : Nat} {env : Env} (h : swap3 env.scope x y z px py pz a b c = true) : swappedStores [.Tuple [.Name x px, .Name y py, .Name z pz] k p] (.Tuple [a, b, c] k2 p2) env = pure (some [x, y, z]) := by
  simp only [swap3, Bool.and_eq_true, decide_eq_true_eq, beq_iff_eq, Bool.not_eq_true'] at h
  obtain ⟨⟨⟨⟨⟨⟨⟨⟨⟨⟨⟨⟨⟨h1, h2⟩, h3⟩, h3'⟩, h4⟩, h4'⟩, h5⟩, h5'⟩, h5''⟩, h6⟩, h7⟩, h7'⟩, h8⟩, h9⟩ := h
  have kx : env.kindOf x = some .local := h2
  have ky : env.kindOf y = some .local := h3
  have kz : env.kindOf z = some .local := h3'
  have hb : env.blockKind = .function := by unfold Env.blockKind; rw [fn_of_b h1]; rfl
  unfold swappedStores
  have hd : [x, y, z].eraseDups.length = 3 := by
    have e1 : (y == x) = false := by simpa using fun e => h5 e.symm
    have e2 : (z == x) = false := by simpa using fun e => h5' e.symm
    have e3 : (z == y) = false := by simpa using fun e => h5'' e.symm
    simp [List.eraseDups_cons, e1, e2, e3]
  have n8 : ¬ (foldedForSure 8 a = true ∧ foldedForSure 8 b = true ∧ foldedForSure 8 c = true) := fun ⟨u, v, w⟩ => by rw [u, v, w] at h8; cases h8
  have n9 : ¬ (constantsAlone 8 a = true ∧ constantsAlone 8 b = true ∧ constantsAlone 8 c = true) := fun ⟨u, v, w⟩ => by rw [u, v, w] at h9; cases h9
  simp [hb, kx, ky, kz, h4, h4', Expr.pos]
  refine (if_neg ?_).trans ?_
  · rintro (h | h | h)
    · cases a <;> first
        | (cases h6; done)
        | exact Bool.noConfusion (show false = true from h)
    · cases b <;> first
        | (cases h7; done)
        | exact Bool.noConfusion (show false = true from h)
    · cases c <;> first
        | (cases h7'; done)
        | exact Bool.noConfusion (show false = true from h)
  · rw [if_pos hd, if_neg n8, if_neg n9]
theorem sw_none' {sc : Scope} {tg : Option Expr} {value : Expr} {l : Nat} {env : Env} (e : env.scope = sc) (h : noSw sc tg value = true) : swapsWith value tg l env = pure false := by
  subst e
  unfold swapsWith
  cases value <;> first
    | rfl
    | (cases h; done)
    | skip
  cases tg with
  | none => cases h
  | some t =>
    cases t <;> first
      | rfl
      | skip
    rename_i id p
    have hk : (env.kindOf id == some .local) = false := by
      have h : (!(env.scope.names.lookup id == some .local)) = true := h
      rw [Bool.not_eq_true'] at h
      exact h
    simp only [hk, Bool.and_false, Bool.false_and]
theorem swap_none {sc : Scope} {tg value : Expr} {env : Env} (es : env.scope = sc) (h : notSwap sc tg value = true) : swappedStores [tg] value env = pure none := by
  subst es
  unfold notSwap at h
  split at h
  · rename_i ts k p
    split at h
    · rename_i vs k2 p2
      exact swap_none' h
    · rename_i hne
      cases value <;> first
        | rfl
        | exact absurd rfl (hne _ _ _)
  · cases h
  · rename_i h1 h2
    cases tg <;> first
      | rfl
      | exact absurd rfl (h1 _ _ _)
      | exact absurd rfl (h2 _ _)
end Mi

end
section
set_option maxHeartbeats 2000000
/-! Mi30: stores. -/
namespace Mi
open PySem L2
section
variable {W : Wd} {K : PySem.W.Frag} {L : Nat → Addr → Prop} {F F1 F2 : Fz} {H H1 H2 : Hp} {r r1 r2 : En} {σ : St} {B B1 B2 A A1 A2 C : List Addr}
theorem kept_of (t : Tr F C H F1 B1 H1) (hC : ∀ a ∈ C, ¬ F a ∧ ∃ xs, H a = some (.lst xs)) (hA : ∀ a ∈ A, a ∉ C) : Kept A F H H1 where
  fz := fun a u hf e => t.e2 a u e fun hc => (hC a hc).1 hf
  tp := fun a xs e => t.e2 a _ e fun hc => by
    obtain ⟨_, ys, q⟩ := hC a hc
    rw [e] at q; cases q
  fr := fun a o u e => t.e2 a _ e fun hc => by
    obtain ⟨_, ys, q⟩ := hC a hc
    rw [e] at q; cases q
  ow := fun a u ha e => t.e2 a u e (hA a ha)
/-- a store behind an expression -/
theorem Tr.ext (p : Tr F B H F1 B1 H1) (f3 : ∀ a ∈ A, a ∈ B ∨ H a = none) (t : Tr F1 (B1 ++ A) H1 F2 B2 H2) : Tr F B H F2 B2 H2 := by
  have from1 : ∀ a ∈ B1 ++ A, a ∈ B ∨ H a = none := fun a ha => (List.mem_append.mp ha).elim (p.nb a) (f3 a)
  refine ⟨fun a hf => t.e1 a (p.e1 a hf), fun a u e hb => t.e2 a u (p.e2 a u e hb) fun hc => ?_, fun a hf => ?_, fun a ha => ?_⟩
  · rcases from1 a hc with q | q
    · exact hb q
    · rw [e] at q; cases q
  · rcases t.e3 a hf with q | q | q
    · exact p.e3 a q
    · exact .inr (from1 a q)
    · exact .inr (p.none_of q)
  · rcases t.nb a ha with q | q
    · exact from1 a q
    · exact p.none_of q
def tGA (K : PySem.W.Frag) (L : Nat → Addr → Prop) (gl : List (Str × PyData)) (g : G) (o : O) (r : En) : TG := fun v σ H Q => ∃ F B A r', Stt K L F H r σ B ∧ RO K L F H o v A ∧ (B ++ A).Nodup ∧ (∀ a ∈ A, ¬ F a) ∧ sto gl g o r = some r' ∧
  ∀ σ' H' F' B', Tr F (B ++ A) H F' B' H' → Stt K L F' H' r' σ' B' → But g.slots σ σ' → Q σ' H'
def tGAs (K : PySem.W.Frag) (L : Nat → Addr → Prop) (gl : List (Str × PyData)) (g : G) (os : List O) (r : En) : TGs := fun vs σ H Q => ∃ F B A r', Stt K L F H r σ B ∧ ROL K L F H os vs A ∧ (B ++ A).Nodup ∧ (∀ a ∈ A, ¬ F a) ∧ stos gl g os r = some r' ∧
  ∀ σ' H' F' B', Tr F (B ++ A) H F' B' H' → Stt K L F' H' r' σ' B' → But g.slots σ σ' → Q σ' H'
theorem tGA_bot {gl : List (Str × PyData)} {g : G} {o : O} (h : sto gl g o r = none) (v : V) (σ : St) (H : Hp) (Q : St → Hp → Prop) : ¬ tGA K L gl g o r v σ H Q := by
  rintro ⟨F, B, A, r', _, _, _, _, e, _⟩
  rw [h] at e; cases e
theorem tGAs_bot {gl : List (Str × PyData)} {g : G} {os : List O} (h : stos gl g os r = none) (v : List V) (σ : St) (H : Hp) (Q : St → Hp → Prop) : ¬ tGAs K L gl g os r v σ H Q := by
  rintro ⟨F, B, A, r', _, _, _, _, e, _⟩
  rw [h] at e; cases e
abbrev Wd.mtA (W : Wd) (N : List Str) := Mi.mtA N W.nm W.fr W.gl W.kwt
abbrev Wd.mtAs (W : Wd) (N : List Str) := Mi.mtAs N W.nm W.fr W.gl W.kwt
theorem mtAs_plain {N : List Str} {sc : Scope} {env : Env} : ∀ {g : G} {es : List Expr}, W.mtAs N sc g es = true → (assignEach es env).findIdx? (·.1) = none ∧ (assignEach es env).length = es.length
  | .nil, [], _ => ⟨rfl, rfl⟩
  | .nil, _ :: _, h => by simp [Wd.mtAs, mtAs] at h
  | .cons g gs, [], h => by simp [Wd.mtAs, mtAs] at h
  | .cons g gs, e :: es, h => by
    simp only [Wd.mtAs, mtAs, Bool.and_eq_true] at h
    obtain ⟨i1, i2⟩ := mtAs_plain (env := env) (g := gs) h.2
    have hp := h.1.1
    have : assignEach (e :: es) env = (false, assign e env) :: assignEach es env := by
      cases e <;> first
        | rfl
        | cases hp
    rw [this]
    exact ⟨by simp [List.findIdx?_cons, i1], by simp [i2]⟩
  | .nm _, _, h => Bool.noConfusion (show false = true from h)
  | .tp _, _, h => Bool.noConfusion (show false = true from h)
  | .sb _ _, _, h => Bool.noConfusion (show false = true from h)
theorem stos_len {gl : List (Str × PyData)} : ∀ {g : G} {os : List O} {r r' : En}, stos gl g os r = some r' → os.length = g.len
  | .nil, [], _, _, _ => rfl
  | .cons g gs, o :: os, r, r', h => by
    simp only [stos] at h
    split at h
    · simp [G.len, stos_len h]
    · cases h
  | .nil, _ :: _, _, _, h => by simp [stos] at h
  | .cons _ _, [], _, _, h => by simp [stos] at h
  | .nm _, _, _, _, h => by simp [stos] at h
  | .tp _, _, _, _, h => by simp [stos] at h
  | .sb _ _, _, _, _, h => by simp [stos] at h
theorem setIx_lst (k : Int) (v : O) : ∀ o o', setIx k v o = some o' → ∃ os, o = .lst os := by
  intro o o' h
  cases o <;> first
    | exact ⟨_, rfl⟩
    | cases h
theorem sub_asg {N : List Str} {sc : Scope} {b : T} {x y : Expr} {pos : Pos} {env : Env} (h : W.mt N sc b y = true) (v : Value) : assign (.Subscript x y pos) env v = (do
      let ov ← holding [v] (eval x env)
      let iv ← holding [v, ov] (eval y env)
      standAt pos
      holding [v, ov, iv] (setItem ov iv v)
      release [v, ov, iv] []) := by
  cases y <;> first
    | rfl
    | skip
  exfalso
  cases b <;> exact Bool.noConfusion (show false = true from h)
/-- o[k] = v -/
theorem ga_sb {X : Cx} {sc sc0 : Scope} (gd : W.G X sc sc0) (o i : T) (v : O) (r : En) (e : Expr) (h : W.mtA X.N sc (.sb o i) e = true) : PG X e (tGA X.K W.L W.gl (.sb o i) v r) := by
  simp only [Wd.mtA, mtA] at h
  split at h <;> try (cases h; done)
  rename_i x y pos
  simp only [Bool.and_eq_true] at h
  obtain ⟨hx, hy⟩ := h
  cases ep : placeL W.gl o r with
  | none => exact pg_bot (tGA_bot (by simp only [sto, ep]))
  | some p =>
    obtain ⟨j, ks⟩ := p
    obtain ⟨px, hpl⟩ := placeL_ok gd ep hx
    have py := ss i r y gd hy
    cases ei : evS W.gl r i with
    | none => exact pg_bot (tGA_bot (by simp only [sto, ep, ei]))
    | some io =>
      by_cases hk : ∃ k, io = .val (.int k)
      · obtain ⟨k, rfl⟩ := hk
        rw [ei] at py
        refine pg_wk (pg_sub px py set_list (fun v => sub_asg hy v)) fun u σ H Q q => ?_
        obtain ⟨F, B, A, r', s, ho, f1, f2, eb, q⟩ := q
        simp only [sto, ep, ei, setAt] at eb
        split at eb <;> try (cases eb; done)
        rename_i root er
        simp only [Option.map_eq_some_iff] at eb
        obtain ⟨root', eu, rfl⟩ := eb
        obtain ⟨v0, p, xs, e1, e2, e3⟩ := hpl s
        refine ⟨F, B, v0, _, s, e1, e2, fun H1 k1 => ⟨F, B, _, s.same k1, rfl, fun v2 H2 A2 k2 o2 i2 => ?_⟩⟩
        have e4 := ro_rp o2
        simp only [Rp] at e4
        subst e4
        have g12 : ∀ a u, H a = some u → H2 a = some u := fun a u e => k2 a u (k1 a u e)
        have s2 := s.same g12
        obtain ⟨v0', p', os, xs', A1, pre, post, o1, g1, rfl, g2, g3, g4, g5, g6⟩ := stt_upd (setIx_lst k v) s2 er eu
        have hv : v0' = v0 := by
          rw [e1] at g1
          cases g1; rfl
        subst hv
        have hpp : p' = p := by
          have := Wlk.inj (Wlk.grows g12 e2) g2
          cases this; rfl
        subst hpp
        simp only [setIx, Option.map_eq_some_iff] at g5
        obtain ⟨jj, ej, rfl⟩ := g5
        have hjl : jj < os.length := (ixN_seq ej).2.1
        obtain ⟨old, eo⟩ : ∃ old, os[jj]? = some old := ⟨os[jj], List.getElem?_eq_getElem hjl⟩
        obtain ⟨y0, C1, Cj, C2, rfl, c1, c2, c3, _⟩ := rol_split g4 eo
        refine ⟨p', xs', k, jj, rfl, rfl, g3, by rw [rol_len g4]; exact ej, ?_⟩
        have hpB : p' ∈ pre ++ (p' :: (C1 ++ Cj ++ C2)) ++ post := by simp
        have hnd := List.nodup_append.mp f1
        have hpA : p' ∉ A := fun hh => hnd.2.2 p' hpB p' hh rfl
        have hdf := s.df p' hpB
        have hp1 : p' ∉ C1 ++ Cj ++ C2 := by
          have := s.nd
          rw [List.append_assoc, List.nodup_append] at this
          exact (List.nodup_cons.mp (List.nodup_append.mp this.2.1).1).1
        have ho2 : RO X.K W.L F (upd H2 p' (.lst (xs'.set jj u))) v u A := RO.keep (fun _ h => h) v u A (kept_upd g3 hdf hpA) (ho.grows g12)
        have kR := c3 F (upd H2 p' (.lst (xs'.set jj u))) (fun _ h => h) (kept_upd g3 hdf fun hh => hp1 (by
          rcases List.mem_append.mp hh with hh | hh <;> simp [hh])) v u A ho2
        have perm : (pre ++ (p' :: (C1 ++ A ++ C2)) ++ post ++ Cj).Perm (pre ++ (p' :: (C1 ++ Cj ++ C2)) ++ post ++ A) := by
          simp only [List.append_assoc, List.cons_append]
          refine List.Perm.append_left _ (List.Perm.cons _ (List.Perm.append_left _ ?_))
          have h1 : (A ++ (C2 ++ (post ++ Cj))).Perm ((C2 ++ (post ++ Cj)) ++ A) := List.perm_append_comm
          refine h1.trans ?_
          have h2 : (C2 ++ (post ++ Cj)).Perm (Cj ++ (C2 ++ post)) := by
            rw [← List.append_assoc]
            exact List.perm_append_comm
          refine (List.Perm.append_right A h2).trans ?_
          simp only [List.append_assoc]
          exact List.Perm.refl _
        have nd := perm.nodup_iff.mpr f1
        have st := g6 _ _ (C1 ++ A ++ C2) rfl kR (List.nodup_append.mp nd).1 (fun a ha hf => by
          rcases List.mem_append.mp ha with ha | ha
          · rcases List.mem_append.mp ha with ha | ha
            · exact s.df a (by simp [ha]) hf
            · exact f2 a ha hf
          · exact s.df a (by simp [ha]) hf)
        refine q _ _ F _ ⟨fun _ h => h, fun a w e hb => ?_, fun _ h => .inl h, fun a ha => .inl ?_⟩ st But.refl
        · have : a ≠ p' := by rintro rfl; exact hb (by simp)
          rw [upd_ne this]
          exact g12 a w e
        · exact perm.mem_iff.mp (List.mem_append.mpr (.inl ha))
      · refine pg_bot (tGA_bot ?_)
        simp only [sto, ep, ei]
        split
        · rename_i k ek
          cases ek
          exact absurd ⟨k, rfl⟩ hk
        · rfl
mutual
theorem ga_ok {X : Cx} {sc : Scope} (gd : W.G X sc sc) : ∀ (g : G) (o : O) (r : En) (e : Expr), W.mtA X.N sc g e = true → PG X e (tGA X.K W.L W.gl g o r)
  | .nm i, o, r, e, h => by
    simp only [Wd.mtA, mtA] at h
    split at h <;> try (cases h; done)
    rename_i x pos
    rw [Bool.and_eq_true, Bool.and_eq_true] at h
    obtain ⟨⟨h1, h2⟩, _⟩ := h
    obtain ⟨g1, g2⟩ := gd.fnl x h2
    refine pg_wk (pg_name gd.nd (of_decide_eq_true h1) g1 g2) fun v σ H Q q => ?_
    obtain ⟨F, B, A, r', s, ho, f1, f2, eb, q⟩ := q
    simp only [sto] at eb
    split at eb
    · rename_i hi
      cases eb
      obtain ⟨B', s', hb⟩ := s.put hi ho f1 f2
      exact q _ H F B' ⟨fun _ h => h, fun _ _ h _ => h, fun _ h => .inl h, fun a ha => .inl (List.mem_append.mpr (hb a ha))⟩ s' (But.set (by simp [G.slots]))
    · cases eb
  | .tp gs, o, r, e, h => by
    simp only [Wd.mtA, mtA] at h
    split at h <;> try (cases h; done)
    rename_i es k pos
    rw [Bool.and_eq_true] at h
    obtain ⟨p1, p2⟩ := mtAs_plain (env := X.env) (W := W) h.1
    have hl : es.length = gs.len := of_decide_eq_true h.2
    have go : ∀ os, PG X (.Tuple es k pos) (gTup X.K gs.len (tGAs X.K W.L W.gl gs os r)) := fun os => pg_tup gd.calm (gas_ok gd gs os r es h.1) (by rw [p2, hl]) p1
    have fin : ∀ (os : List O) (v : V) (σ : St) (H : Hp) (Q : St → Hp → Prop) (F : Fz) (B A : List Addr) (r' : En) (a : Addr) (xs : List V), v = .ref a → SqT X.K H a xs → Stt X.K W.L F H r σ B → ROL X.K W.L F H os xs A → (B ++ A).Nodup → (∀ a ∈ A, ¬ F a) → stos W.gl gs os r = some r' →
        (∀ σ' H' F' B', Tr F (B ++ A) H F' B' H' → Stt X.K W.L F' H' r' σ' B' → But (G.tp gs).slots σ σ' → Q σ' H') → gTup X.K gs.len (tGAs X.K W.L W.gl gs os r) v σ H Q := fun os v σ H Q F B A r' a xs ev h1 s h2 f1 f2 eb q =>
      ⟨a, xs, ev, h1, by rw [rol_len h2, stos_len eb], F, B, A, r', s, h2, f1, f2, eb, fun σ' H' F' B' t' s' u => q σ' H' F' B' t' s' (by simpa [G.slots] using u)⟩
    cases o with
    | val d =>
      cases d with
      | tuple ds =>
        refine pg_wk (go (ds.map O.val)) fun v σ H Q q => ?_
        obtain ⟨F, B, A, r', s, ho, f1, f2, eb, q⟩ := q
        simp only [sto] at eb
        simp only [RO, Rp] at ho
        obtain ⟨⟨a, xs, e1, h1, h2⟩, rfl⟩ := ho
        exact fin _ v σ H Q F B [] r' a xs e1 h1 s (rol_of h2) f1 f2 eb q
      | _ => exact pg_bot (tGA_bot (by simp [sto]))
    | tup os =>
      refine pg_wk (go os) fun v σ H Q q => ?_
      obtain ⟨F, B, A, r', s, ho, f1, f2, eb, q⟩ := q
      simp only [sto] at eb
      simp only [RO] at ho
      obtain ⟨a, xs, e1, h1, h2⟩ := ho
      exact fin _ v σ H Q F B A r' a xs e1 h1 s h2 f1 f2 eb q
    | _ => exact pg_bot (tGA_bot (by simp [sto]))
  | .sb o i, v, r, e, h => ga_sb gd o i v r e h
  | .nil, _, _, e, h => Bool.noConfusion (show false = true from h)
  | .cons _ _, _, _, e, h => Bool.noConfusion (show false = true from h)
theorem gas_ok {X : Cx} {sc : Scope} (gd : W.G X sc sc) : ∀ (g : G) (os : List O) (r : En) (es : List Expr), W.mtAs X.N sc g es = true → PGs X es (tGAs X.K W.L W.gl g os r)
  | .nil, os, r, es, h => by
    simp only [Wd.mtAs, mtAs, List.isEmpty_iff] at h
    subst h
    refine pgs_wk pgs_nil fun vs σ H Q q => ?_
    obtain ⟨F, B, A, r', s, ho, f1, f2, eb, q⟩ := q
    cases os with
    | nil =>
      simp only [stos, Option.some.injEq] at eb
      subst eb
      simp only [ROL] at ho
      exact ⟨ho.1, q σ H F B ⟨fun _ h => h, fun _ _ h _ => h, fun _ h => .inl h, fun a ha => .inl (by simp [ha])⟩ s But.refl⟩
    | cons _ _ => simp [stos] at eb
  | .cons g gs, os, r, es, h => by
    simp only [Wd.mtAs, mtAs] at h
    cases es with
    | nil => cases h
    | cons e es =>
      simp only [Bool.and_eq_true] at h
      obtain ⟨⟨hp, hg⟩, hgs⟩ := h
      cases os with
      | nil => exact pgs_bot (tGAs_bot (by simp [stos]))
      | cons o os =>
        cases e1 : sto W.gl g o r with
        | none => exact pgs_bot (tGAs_bot (by simp [stos, e1]))
        | some r1 =>
          refine pgs_wk (pgs_cons (ga_ok gd g o r e hg) (gas_ok gd gs os r1 es hgs) (by cases e <;> first
            | rfl
            | cases hp)) fun vs σ H Q q => ?_
          obtain ⟨F, B, A, r', s, ho, f1, f2, eb, q⟩ := q
          simp only [stos, e1] at eb
          simp only [ROL] at ho
          obtain ⟨x, ys, A1, A2, rfl, h1, h2, rfl⟩ := ho
          rw [← List.append_assoc] at f1
          have f1' := List.nodup_append.mp f1
          refine ⟨x, ys, rfl, F, B, A1, r1, s, h1, f1'.1, fun a ha => f2 a (by simp [ha]), e1, fun σ1 H1 F1 B1 t1 s1 u1 => ?_⟩
          have hC : ∀ a ∈ B ++ A1, ¬ F a ∧ ∃ xs, H a = some (.lst xs) := fun a ha => by
            rcases List.mem_append.mp ha with ha | ha
            · exact ⟨s.df a ha, s.lists ha⟩
            · exact ⟨f2 a (by simp [ha]), RO.own o x A1 h1 a ha⟩
          have hA2 : ∀ a ∈ A2, a ∉ B ++ A1 := fun a ha hb => f1'.2.2 a hb a ha rfl
          have ro2 : ROL X.K W.L F1 H1 os ys A2 := ROL.keep t1.e1 os ys A2 (kept_of t1 hC hA2) h2
          have far : ∀ a ∈ A2, a ∉ B1 ∧ ¬ F1 a := fun a ha => by
            obtain ⟨xs, e⟩ := ROL.own os ys A2 h2 a ha
            have := t1.far e (hA2 a ha) (f2 a (by simp [ha]))
            exact this.2
          refine ⟨F1, B1, A2, r', s1, ro2, List.nodup_append.mpr ⟨s1.nd, f1'.2.1, fun a ha b hb e => (far b hb).1 (e ▸ ha)⟩, fun a ha => (far a ha).2, eb, fun σ2 H2 F2 B2 t2 s2 u2 => ?_⟩
          refine q σ2 H2 F2 B2 ?_ s2 ((u1.mono fun i hi => by simp [G.slots, hi]).trans (u2.mono fun i hi => by simp [G.slots, hi]))
          have t1' : Tr F (B ++ (A1 ++ A2)) H F1 B1 H1 := ⟨t1.e1, fun a u e hb => t1.e2 a u e fun hc => hb (by
            rcases List.mem_append.mp hc with hc | hc <;> simp [hc]), fun a hf => (t1.e3 a hf).elim .inl fun q => q.elim (fun q => .inr (.inl (by
            rcases List.mem_append.mp q with q | q <;> simp [q]))) fun q => .inr (.inr q), fun a ha => (t1.nb a ha).elim (fun q => .inl (by
            rcases List.mem_append.mp q with q | q <;> simp [q])) .inr⟩
          exact t1'.ext (A := A2) (fun a ha => .inl (by simp [ha])) t2
  | .nm _, _, _, _, h => Bool.noConfusion (show false = true from h)
  | .tp _, _, _, _, h => Bool.noConfusion (show false = true from h)
  | .sb _ _, _, _, _, h => Bool.noConfusion (show false = true from h)
end
end
end Mi

end
section
set_option maxHeartbeats 2000000
/-! Mi31: statements. -/
namespace Mi
open PySem L2
def EndOk (K : PySem.W.Frag) (L : Nat → Addr → Prop) (V : List Nat) (F : Fz) (B : List Addr) (H : Hp) (σ : St) (r' : En) (D : Ends) : Fl → Prop
  | .nx => ∀ σ' H' F' B', Tr F B H F' B' H' → Stt K L F' H' r' σ' B' → But V σ σ' → D.nx σ' H'
  | .bk => ∀ σ' H' F' B', Tr F B H F' B' H' → Stt K L F' H' r' σ' B' → But V σ σ' → D.bk σ' H'
  | .ct => ∀ σ' H' F' B', Tr F B H F' B' H' → Stt K L F' H' r' σ' B' → But V σ σ' → D.ct σ' H'
  | .rt o => ∀ σ' v H' F' B' A, Tr F B H F' B' H' → Stt K L F' H' r' σ' B' → But V σ σ' → RO K L F' H' o v A → (B' ++ A).Nodup → (∀ a ∈ A, ¬ F' a) → (∀ a ∈ A, a ∈ B ∨ H a = none) → D.rt v H'
def tSt (K : PySem.W.Frag) (L : Nat → Addr → Prop) (V : List Nat) (r : En) (res : Option (Fl × En)) : TS := fun D σ H => ∃ F B f r', Stt K L F H r σ B ∧ res = some (f, r') ∧ EndOk K L V F B H σ r' D f
section
variable {W : Wd} {K : PySem.W.Frag} {L : Nat → Addr → Prop} {F F1 F2 : Fz} {H H1 H2 : Hp} {r r1 r2 : En} {σ : St} {B B1 B2 A A1 A2 C : List Addr}
theorem EndOk.pre {V : List Nat} {σ1 : St} {r' : En} {D : Ends} {f : Fl} (t : Tr F B H F1 B1 H1) (u : But V σ σ1) (h : EndOk K L V F B H σ r' D f) : EndOk K L V F1 B1 H1 σ1 r' D f := by
  cases f with
  | nx => exact fun σ' H' F' B' t' s' u' => h σ' H' F' B' (t.trans t') s' (u.trans u')
  | bk => exact fun σ' H' F' B' t' s' u' => h σ' H' F' B' (t.trans t') s' (u.trans u')
  | ct => exact fun σ' H' F' B' t' s' u' => h σ' H' F' B' (t.trans t') s' (u.trans u')
  | rt o => exact fun σ' v H' F' B' A t' s' u' ro n df f3 => h σ' v H' F' B' A (t.trans t') s' (u.trans u') ro n df fun a ha => (f3 a ha).elim (t.nb a) t.none_of
theorem tSt_mk {V : List Nat} {f : Fl} {D : Ends} (h : tSt K L V r (some (f, r1)) D σ H) : ∃ F B, Stt K L F H r σ B ∧ EndOk K L V F B H σ r1 D f := by
  obtain ⟨F, B, f', r', s, e, q⟩ := h
  cases e
  exact ⟨F, B, s, q⟩
theorem tSt_none {V : List Nat} {D : Ends} : ¬ tSt K L V r none D σ H := by
  rintro ⟨F, B, f', r', s, e, q⟩
  cases e
theorem ps_wk {X : Cx} {st : Stmt} {t t' : TS} (h : PS X st t') (hw : ∀ D σ H, t D σ H → t' D σ H) : PS X st t := ⟨fun pins s σ H D I q => h.run pins s σ H D I (hw D σ H q)⟩
theorem ps_bot {X : Cx} {st : Stmt} {t : TS} (hw : ∀ D σ H, ¬ t D σ H) : PS X st t := ⟨fun pins s σ H D I q => (hw D σ H q).elim⟩
theorem pss_wk {X : Cx} {st : List Stmt} {t t' : TS} (h : PSs X st t') (hw : ∀ D σ H, t D σ H → t' D σ H) : PSs X st t := ⟨fun pins s σ H D I q => h.run pins s σ H D I (hw D σ H q)⟩
theorem pss_bot {X : Cx} {st : List Stmt} {t : TS} (hw : ∀ D σ H, ¬ t D σ H) : PSs X st t := ⟨fun pins s σ H D I q => (hw D σ H q).elim⟩
theorem ps_ex {ι : Type} {X : Cx} {st : Stmt} {t : ι → TS} (h : ∀ i, PS X st (t i)) : PS X st (fun D σ H => ∃ i, t i D σ H) := ⟨fun pins s σ H D I ⟨i, q⟩ => (h i).run pins s σ H D I q⟩
theorem pss_ex {ι : Type} {X : Cx} {st : List Stmt} {t : ι → TS} (h : ∀ i, PSs X st (t i)) : PSs X st (fun D σ H => ∃ i, t i D σ H) := ⟨fun pins s σ H D I ⟨i, q⟩ => (h i).run pins s σ H D I q⟩
abbrev Wd.mtS (W : Wd) (N : List Str) := Mi.mtS N W.nm W.fr W.gl W.kwt
abbrev Wd.mtB (W : Wd) (N : List Str) := Mi.mtB N W.nm W.fr W.gl W.kwt
abbrev Wd.ex (W : Wd) := Mi.ex W.gl W.cf
structure Sts (W : Wd) (s : S) : Prop where
  one : ∀ (V : List Nat), (∀ i ∈ s.st, i ∈ V) → ∀ (r : En) (X : Cx) (sc : Scope) (st : Stmt), W.G X sc sc → PassesOwn (model X.prog X.w) X.A X.env X.xe → W.mtS X.N sc s st = true → PS X st (tSt X.K W.L V r (W.ex s r))
  blk : ∀ (V : List Nat), (∀ i ∈ s.st, i ∈ V) → ∀ (r : En) (X : Cx) (sc : Scope) (l : List Stmt), W.G X sc sc → PassesOwn (model X.prog X.w) X.A X.env X.xe → W.mtB X.N sc s l = true → PSs X l (tSt X.K W.L V r (W.ex s r))
/-- store behind an expression, generally -/
theorem set_gen {X : Cx} {sc : Scope} (gd : W.G X sc sc) {g : G} {e : T} {tg value : Expr} {pos : Pos} (r : En) (hg : W.mtA X.N sc g tg = true) (he : W.mt X.N sc e value = true) (h1 : notSwap sc tg value = true) (h2 : noSw sc (some tg) value = true) (V : List Nat) (hV : ∀ i ∈ g.slots, i ∈ V) :
    PS X (.Assign [tg] value pos) (tSt X.K W.L V r (W.ex (.set g e) r)) := by
  simp only [Wd.ex, ex]
  split
  · rename_i o r1 ea
    cases es : sto W.gl g o r1 with
    | none => exact ps_bot fun D σ H => tSt_none
    | some r2 =>
      have hplain : (assignEach [tg] X.env).map (·.2) = [assign tg X.env] := by
        cases tg <;> first
          | rfl
          | skip
        exfalso
        cases g <;> exact Bool.noConfusion (show false = true from hg)
      refine ps_wk (ps_asg ((snd W e).e true r X sc sc value gd he) (ga_ok gd g o r1 tg hg) (sw_none' gd.sc h2) (swap_none gd.sc h1) hplain) fun D σ H q => ?_
      obtain ⟨F, B, s, q⟩ := tSt_mk q
      refine ⟨F, B, _, _, s, ea, fun v H1 F1 B1 A p => ?_⟩
      obtain ⟨f1, f2, f3⟩ := p.fr rfl
      exact ⟨F1, B1, A, r2, p.st, p.ro, f1, f2, es, fun σ' H' F' B' t' s' u' => q σ' H' F' B' (p.tr.ext f3 t') s' (u'.mono hV)⟩
  · exact ps_bot fun D σ H => tSt_none
/-- a comprehension that goes into a name at once -/
theorem set_lc {X : Cx} {sc : Scope} (gd : W.G X sc sc) {g : G} {e : T} {tg value : Expr} {pos : Pos} (r : En) (hg : W.mtA X.N sc g tg = true) (he : W.mt X.N sc e value = true) (h1 : asgB sc tg value = true) (V : List Nat) (hV : ∀ i ∈ g.slots, i ∈ V) :
    PS X (.Assign [tg] value pos) (tSt X.K W.L V r (W.ex (.set g e) r)) := by
  unfold asgB at h1
  split at h1 <;> try (cases h1; done)
  rename_i y py
  unfold swIn at h1
  split at h1 <;> try (cases h1; done)
  rename_i elt tg0 iter ifs scope lpos
  simp only [Bool.and_eq_true, Bool.not_eq_true', decide_eq_true_eq] at h1
  obtain ⟨⟨⟨k1, k2⟩, k3⟩, k4⟩ := h1
  have hsc := gd.sc
  cases g with
  | nm i =>
    simp only [Wd.mtA, mtA, Bool.and_eq_true, decide_eq_true_eq] at hg
    obtain ⟨⟨hi, hl⟩, hok⟩ := hg
    cases e with
    | lc e0 g0 k it c own =>
      simp only [Wd.ex, ex]
      split
      · rename_i o r1 ea
        rcases lc_parts (snd W e0).e (snd W it).e (snd W it).a (snd W c).c true r gd he with h0 | ⟨wi, g', tt, te, p1, p2, p3, p4, p5, p6, p7⟩
        · exfalso
          have ea' : W.ev true (.lc e0 g0 k it c own) r = some (o, r1) := ea
          rw [h0] at ea'; cases ea'
        · cases es : sto W.gl (.nm i) o r1 with
          | none => exact ps_bot fun D σ H => tSt_none
          | some r2 =>
            refine ps_wk (ps_setLc gd.calm gd.nd hi (by rw [hsc]; exact k2) (sw_true (by rw [hsc]; exact fn_of_b k1) (by rw [hsc]; exact k2) k3 k4) p1 p2 p3 p4 p5 p6) fun D σ H q => ?_
            obtain ⟨F, B, s, q⟩ := tSt_mk q
            refine p7 σ H _ ⟨F, B, _, _, s, ea, fun v H1 F1 B1 A p => ?_⟩
            obtain ⟨f1, f2, f3⟩ := p.fr rfl
            simp only [sto] at es
            split at es
            · rename_i hi'
              cases es
              obtain ⟨B', s', hb⟩ := p.st.put hi' p.ro f1 f2
              exact q _ H1 F1 B' (p.tr.ext f3 ⟨fun _ h => h, fun _ _ h _ => h, fun _ h => .inl h, fun a ha => .inl (List.mem_append.mpr (hb a ha))⟩) s' (But.set (hV i (by simp [G.slots])))
            · cases es
      · exact ps_bot fun D σ H => tSt_none
    | _ => exact Bool.noConfusion (show false = true from he)
  | _ => exact Bool.noConfusion (show false = true from hg)
/-! ### small ones -/
theorem sts_mk {s : S} (h : ∀ (V : List Nat), (∀ i ∈ s.st, i ∈ V) → ∀ (r : En) (X : Cx) (sc : Scope) (st : Stmt), W.G X sc sc → PassesOwn (model X.prog X.w) X.A X.env X.xe → W.mtS X.N sc s st = true → PS X st (tSt X.K W.L V r (W.ex s r)))
    (hb : ∀ N sc l, W.mtB N sc s l = false) : Sts W s := ⟨h, fun V _ r X sc l _ _ he => by rw [hb] at he; cases he⟩
theorem sts_ex {e : T} : Sts W (.ex e) := sts_mk (fun V hV r X sc st gd hp h => by
  simp only [Wd.mtS, mtS] at h
  split at h <;> try (cases h; done)
  rename_i value pos
  simp only [Bool.and_eq_true] at h
  simp only [Wd.ex, ex]
  cases ea : Mi.ev W.gl W.cf true e r with
  | none => exact ps_bot fun D σ H => tSt_none
  | some p =>
    obtain ⟨o, r1⟩ := p
    refine ps_wk (ps_expr ((snd W e).e true r X sc sc value gd h.1) (sw_none' gd.sc h.2)) fun D σ H q => ?_
    obtain ⟨F, B, s, q⟩ := tSt_mk q
    exact ⟨F, B, _, _, s, ea, fun v H1 F1 B1 A p => q σ H1 F1 B1 p.tr p.st But.refl⟩) fun _ _ _ => rfl
theorem sts_pass : Sts W .pass := sts_mk (fun V hV r X sc st gd hp h => by
  simp only [Wd.mtS, mtS] at h
  split at h <;> try (cases h; done)
  refine ps_wk ps_pass fun D σ H q => ?_
  simp only [Wd.ex, ex] at q
  obtain ⟨F, B, s, q⟩ := tSt_mk q
  exact q σ H F B Tr.refl s But.refl) fun _ _ _ => rfl
theorem sts_brk : Sts W .brk := sts_mk (fun V hV r X sc st gd hp h => by
  simp only [Wd.mtS, mtS] at h
  split at h <;> try (cases h; done)
  refine ps_wk ps_break fun D σ H q => ?_
  simp only [Wd.ex, ex] at q
  obtain ⟨F, B, s, q⟩ := tSt_mk q
  exact q σ H F B Tr.refl s But.refl) fun _ _ _ => rfl
theorem sts_cont : Sts W .cont := sts_mk (fun V hV r X sc st gd hp h => by
  simp only [Wd.mtS, mtS] at h
  split at h <;> try (cases h; done)
  refine ps_wk ps_continue fun D σ H q => ?_
  simp only [Wd.ex, ex] at q
  obtain ⟨F, B, s, q⟩ := tSt_mk q
  exact q σ H F B Tr.refl s But.refl) fun _ _ _ => rfl
theorem sts_dead : Sts W .dead := ⟨fun V hV r X sc st gd hp h => ps_bot fun D σ H => tSt_none, fun V hV r X sc l gd hp h => pss_bot fun D σ H => tSt_none⟩
theorem sts_nop : Sts W .nop := ⟨fun V hV r X sc st gd hp h => Bool.noConfusion (show false = true from h), fun V hV r X sc l gd hp h => by
  simp only [Wd.mtB, mtB, List.isEmpty_iff] at h
  subst h
  refine pss_wk L2.pss_nil fun D σ H q => ?_
  simp only [Wd.ex, ex] at q
  obtain ⟨F, B, s, q⟩ := tSt_mk q
  exact q σ H F B Tr.refl s But.refl⟩
theorem sts_sq {a b : S} (ha : Sts W a) (hb : Sts W b) : Sts W (.sq a b) := ⟨fun V hV r X sc st gd hp h => Bool.noConfusion (show false = true from h), fun V hV r X sc l gd hp h => by
  simp only [Wd.mtB, mtB] at h
  cases l with
  | nil => cases h
  | cons st rest =>
    simp only [Bool.and_eq_true] at h
    have p1 := ha.one V (fun i hi => hV i (by simp [S.st, hi])) r X sc st gd hp h.1
    simp only [Wd.ex, ex]
    have stop : ∀ (x : Option (Fl × En)), W.ex a r = x → (∀ r1, x ≠ some (.nx, r1)) → PSs X (st :: rest) (tSt X.K W.L V r x) := by
      intro x ex' hn
      refine pss_wk (L2.pss_cons p1 pss_never) fun D σ H q => ?_
      obtain ⟨F, B, f, r1, s, e, q⟩ := q
      subst e
      refine ⟨F, B, f, r1, s, ex', ?_⟩
      cases f with
      | nx => exact absurd rfl (hn r1)
      | bk => exact q
      | ct => exact q
      | rt o => exact q
    split
    · rename_i r1 ea
      refine pss_wk (L2.pss_cons p1 (hb.blk V (fun i hi => hV i (by simp [S.st, hi])) r1 X sc rest gd hp h.2)) fun D σ H q => ?_
      obtain ⟨F, B, f, r2, s, e, q⟩ := q
      exact ⟨F, B, .nx, r1, s, ea, fun σ' H' F' B' t' s' u' => ⟨F', B', f, r2, s', e, q.pre t' u'⟩⟩
    · rename_i hn
      exact stop _ rfl fun r1 e => hn r1 e⟩
theorem sts_ite {c : T} {a b : S} (ha : Sts W a) (hb : Sts W b) : Sts W (.ite c a b) := sts_mk (fun V hV r X sc st gd hp h => by
  simp only [Wd.mtS, mtS] at h
  split at h <;> try (cases h; done)
  rename_i x u v pos
  simp only [Bool.and_eq_true] at h
  obtain ⟨⟨⟨ht, hx⟩, hu⟩, hv⟩ := h
  have pc := (snd W c).c ht r X sc sc x gd hx
  simp only [Wd.ex, ex]
  have key : ∀ k r1, cnd W.gl W.cf c r = some (k, r1) → W.ev false c r = some (.val (.bool k), r1) := by
    intro k r1 e
    unfold cnd at e
    split at e
    · rename_i xo r1' ea
      simp only [Option.map_eq_some_iff, Prod.mk.injEq] at e
      obtain ⟨b', eb, rfl, rfl⟩ := e
      rw [blq eb] at ea
      exact ea
    · cases e
  split
  · rename_i r1 ec
    refine ps_wk (ps_if pc (ha.blk V (fun i hi => hV i (by simp [S.st, hi])) r1 X sc u gd hp hu) (hb.blk V (fun i hi => hV i (by simp [S.st, hi])) r1 X sc v gd hp hv)) fun D σ H q => ?_
    obtain ⟨F, B, f, r2, s, e, q⟩ := q
    refine ⟨F, B, true, r1, s, key _ _ ec, fun H' F' B' t' s' _ => ?_⟩
    show (if true = true then _ else _)
    rw [if_pos rfl]
    exact ⟨F', B', f, r2, s', e, q.pre t' But.refl⟩
  · rename_i r1 ec
    refine ps_wk (ps_if pc (ha.blk V (fun i hi => hV i (by simp [S.st, hi])) r1 X sc u gd hp hu) (hb.blk V (fun i hi => hV i (by simp [S.st, hi])) r1 X sc v gd hp hv)) fun D σ H q => ?_
    obtain ⟨F, B, f, r2, s, e, q⟩ := q
    refine ⟨F, B, false, r1, s, key _ _ ec, fun H' F' B' t' s' _ => ?_⟩
    show (if false = true then _ else _)
    rw [if_neg (by decide)]
    exact ⟨F', B', f, r2, s', e, q.pre t' But.refl⟩
  · exact ps_bot fun D σ H => tSt_none) fun _ _ _ => rfl
theorem sts_for {g : G} {k : Sk} {it : T} {b : S} (hb : Sts W b) : Sts W (.for_ g k it b) := sts_mk (fun V hV r X sc st gd hp h => by
  simp only [Wd.mtS, mtS] at h
  split at h <;> try (cases h; done)
  rename_i tg iter u pos
  simp only [Bool.and_eq_true] at h
  obtain ⟨⟨hs, hg⟩, hu⟩ := h
  obtain ⟨hset, psrc⟩ := src_ok (snd W it).e (snd W it).a gd true r hs
  simp only [Wd.ex, ex, src]
  split
  · rename_i ds r1 es
    refine ps_wk (ps_for (g := fun v σ H Q => ∃ p : PyData × En, tG X.K W.L g (.val p.1) p.2 v σ H Q) (tb := fun D σ H => ∃ rX, tSt X.K W.L V rX (W.ex b rX) D σ H) hp gd.calm psrc (pg_ex fun p => pg_ok gd.calm gd.nd gd.fnl g (.val p.1) p.2 tg hg) (pss_ex fun rX => hb.blk V (fun i hi => hV i (by simp [S.st, hi])) rX X sc u gd hp hu) hset) fun D σ H q => ?_
    obtain ⟨F, B, f, r2, s, e, q⟩ := q
    refine ⟨F, B, ds, r1, s, es, fun J H1 F1 B1 C t1 s1 _ wk hC => ?_⟩
    obtain ⟨Gp, Y, w, hG, hY⟩ := wk
    have hC := hC rfl
    refine for_it (g := fun v σ H Q => ∃ p : PyData × En, tG X.K W.L g (.val p.1) p.2 v σ H Q) (tb := fun D σ H => ∃ rX, tSt X.K W.L V rX (W.ex b rX) D σ H) (D := D) (σ := σ) (H := H1) w (fun i σ' Hc => ∃ F' Bc rc, Stt X.K W.L F' Hc rc σ' Bc ∧ But V σ σ' ∧ Tr F1 B1 H1 F' Bc Hc ∧ forGo g (W.ex b) (ds.drop i) rc = some (f, r2)) ?_ ?_ ?_ ?_
    · exact ⟨F1, B1, r1, s1, But.refl, Tr.refl, by rw [List.drop_zero]; exact e⟩
    · rintro i σ' Hc hi ⟨F', Bc, rc, st, uu, t, _⟩
      exact hG Hc (t.kept s1 hC)
    · rintro i x σ' Hc H' hi ⟨F', Bc, rc, st, uu, t, eg⟩ y
      obtain ⟨d, hd⟩ : ∃ d, ds[i]? = some d := ⟨ds[i], List.getElem?_eq_getElem hi⟩
      obtain ⟨gr, rp⟩ := hY i Hc x H' d (t.kept s1 hC) hd y
      have edrop : ds.drop i = d :: ds.drop (i + 1) := by
        rw [List.drop_eq_getElem_cons hi]
        rw [List.getElem?_eq_getElem hi] at hd
        cases hd; rfl
      rw [edrop] at eg
      simp only [forGo] at eg
      split at eg <;> try (cases eg; done)
      rename_i rb eb
      have rpF : Rp X.K F' H' d x := Rp.keep t.e1 (Kept.same rd_refl) d x rp
      refine ⟨(d, rc), F', Bc, [], rb, st.same gr, rp_ro rpF, by simpa using st.nd, by simp, eb, fun σ2 B' s' hb' u2 => ?_⟩
      have uB : But V σ σ2 := uu.trans (u2.mono fun i hi => hV i (by simp [S.st, hi]))
      have tB : Tr F1 B1 H1 F' B' H' := (t.trans (Tr.same gr)).withB fun a ha => by
        rcases hb' a ha with hh | hh
        · exact t.nb a hh
        · simp at hh
      split at eg
      · rename_i r3 ef
        exact ⟨rb, F', B', .nx, r3, s', ef, fun σ3 H3 F3 B3 t3 s3 u3 => ⟨F3, B3, r3, s3, uB.trans u3, tB.trans t3, eg⟩⟩
      · rename_i r3 ef
        exact ⟨rb, F', B', .ct, r3, s', ef, fun σ3 H3 F3 B3 t3 s3 u3 => ⟨F3, B3, r3, s3, uB.trans u3, tB.trans t3, eg⟩⟩
      · rename_i r3 ef
        cases eg
        exact ⟨rb, F', B', .bk, r2, s', ef, fun σ3 H3 F3 B3 t3 s3 u3 => q σ3 H3 F3 B3 (t1.trans (tB.trans t3)) s3 (uB.trans u3)⟩
      · rename_i o r3 ef
        cases eg
        exact ⟨rb, F', B', .rt o, r2, s', ef, EndOk.pre (t1.trans tB) uB q⟩
      · cases eg
    · rintro σ' Hc ⟨F', Bc, rc, st, uu, t, eg⟩
      rw [List.drop_length] at eg
      simp only [forGo] at eg
      cases eg
      exact q σ' Hc F' Bc (t1.trans t) st uu
  · exact ps_bot fun D σ H => tSt_none) fun _ _ _ => rfl
theorem sts_whl {c : T} {b : S} (hb : Sts W b) : Sts W (.whl c b) := sts_mk (fun V hV r X sc st gd hp h => by
  simp only [Wd.mtS, mtS] at h
  split at h <;> try (cases h; done)
  rename_i x u pos
  simp only [Bool.and_eq_true] at h
  obtain ⟨⟨ht, hx⟩, hu⟩ := h
  simp only [Wd.ex, ex]
  have key : ∀ k r r1, cnd W.gl W.cf c r = some (k, r1) → W.ev false c r = some (.val (.bool k), r1) := by
    intro k r r1 e
    unfold cnd at e
    split at e
    · rename_i xo r1' ea
      simp only [Option.map_eq_some_iff, Prod.mk.injEq] at e
      obtain ⟨b', eb, rfl, rfl⟩ := e
      rw [blq eb] at ea
      exact ea
    · cases e
  refine ps_wk (ps_while (tc := fun σ H Q => ∃ rX, tT X.K W.L c.qt rX (W.ev false c rX) σ H Q) (tb := fun D σ H => ∃ rX, tSt X.K W.L V rX (W.ex b rX) D σ H) hp (pt_ex fun rX => (snd W c).c ht rX X sc sc x gd hx) (pss_ex fun rX => hb.blk V (fun i hi => hV i (by simp [S.st, hi])) rX X sc u gd hp hu)) fun D σ H q => ?_
  obtain ⟨F, B, f, r2, s, e, q⟩ := q
  refine ⟨fun m σ' Hc => ∃ F' Bc rc, Stt X.K W.L F' Hc rc σ' Bc ∧ But V σ σ' ∧ Tr F B H F' Bc Hc ∧ whlGo (cnd W.gl W.cf c) (W.ex b) m rc = some (f, r2), ⟨LF, F, B, r, s, But.refl, Tr.refl, e⟩, ?_⟩
  rintro m σ' Hc ⟨F', Bc, rc, st, uu, t, eg⟩
  cases m with
  | zero => cases eg
  | succ m =>
    simp only [whlGo] at eg
    split at eg
    · rename_i r1 ec
      cases eg
      refine ⟨rc, F', Bc, false, r2, st, key _ _ _ ec, fun H1 F1 B1 t1 s1 _ => ?_⟩
      show (if false = true then _ else _)
      rw [if_neg (by decide)]
      exact q σ' H1 F1 B1 (t.trans t1) s1 uu
    · rename_i r1 ec
      refine ⟨rc, F', Bc, true, r1, st, key _ _ _ ec, fun H1 F1 B1 t1 s1 _ => ?_⟩
      show (if true = true then _ else _)
      rw [if_pos rfl]
      refine ⟨fun σ' H' => ∃ F' Bc rc, Stt X.K W.L F' H' rc σ' Bc ∧ But V σ σ' ∧ Tr F B H F' Bc H' ∧ whlGo (cnd W.gl W.cf c) (W.ex b) m rc = some (f, r2), fun σ3 H3 q3 => ⟨m, Nat.lt_succ_self m, q3⟩, ?_⟩
      split at eg
      · rename_i r3 ef
        exact ⟨r1, F1, B1, .nx, r3, s1, ef, fun σ3 H3 F3 B3 t3 s3 u3 => ⟨F3, B3, r3, s3, uu.trans u3, (t.trans t1).trans t3, eg⟩⟩
      · rename_i r3 ef
        exact ⟨r1, F1, B1, .ct, r3, s1, ef, fun σ3 H3 F3 B3 t3 s3 u3 => ⟨F3, B3, r3, s3, uu.trans u3, (t.trans t1).trans t3, eg⟩⟩
      · rename_i r3 ef
        cases eg
        exact ⟨r1, F1, B1, .bk, r2, s1, ef, fun σ3 H3 F3 B3 t3 s3 u3 => q σ3 H3 F3 B3 ((t.trans t1).trans t3) s3 (uu.trans u3)⟩
      · rename_i o r3 ef
        cases eg
        exact ⟨r1, F1, B1, .rt o, r2, s1, ef, EndOk.pre (t.trans t1) uu q⟩
      · cases eg
    · cases eg) fun _ _ _ => rfl
end
end Mi

end
section
set_option maxHeartbeats 2000000
/-! Mi32: what is returned; stores in place. -/
namespace Mi
open PySem L2
section
variable {W : Wd} {K : PySem.W.Frag} {L : Nat → Addr → Prop} {F F1 F2 : Fz} {H H1 H2 : Hp} {r r1 r2 : En} {σ : St} {B B1 B2 A A1 A2 C : List Addr}
theorem Ps.dq {q pl : Bool} {o : O} {v : V} {r' : En} (p : Ps K L q pl F B H r' o σ v H1 F1 B1 A) : Ps K L false pl F B H r' o σ v H1 F1 B1 A := ⟨p.tr, p.st, p.ro, p.fr, p.inb, fun h => nomatch h⟩
theorem tR_dq {q pl : Bool} {res : Option (O × En)} {Q : VK} (h : tR K L false pl r res σ H Q) : tR K L q pl r res σ H Q := by
  obtain ⟨F, B, o, r', s, e, q⟩ := h
  exact ⟨F, B, o, r', s, e, fun v H' F' B' A p => q v H' F' B' A p.dq⟩
/-- a name's own list goes out -/
theorem take_name {i : Nat} {o : O} (s : Stt K L F H r σ B) (e : ge r i = some o) : ∃ v B' A, σ[i]? = some (some v) ∧ Ps K L false false F B H (r.set i none) o σ v H F B' A := by
  obtain ⟨B1, A, B2, rfl, g, _, k⟩ := EnvR.slot r σ B i s.env (ge_lt e)
  obtain ⟨v, g1, g2⟩ := g _ (ge_eq e)
  have kk := (k F H (fun _ h => h) (Kept.same rd_refl)).2 (some v)
  rw [set_self g1] at kk
  have hn := nodup_mid s.nd
  have hA : A.Nodup := by
    have := s.nd
    rw [List.append_assoc, List.nodup_append] at this
    exact (List.nodup_append.mp this.2.1).1
  have sub : ∀ a ∈ B1 ++ B2, a ∈ B1 ++ A ++ B2 := fun a ha => by
    rcases List.mem_append.mp ha with ha | ha <;> simp [ha]
  refine ⟨v, B1 ++ B2, A, g1, ⟨fun _ h => h, fun _ _ h _ => h, fun _ h => .inl h, fun a ha => .inl (sub a ha)⟩, ⟨kk, hn.1, fun a ha => s.df a (sub a ha), s.dm⟩, g2, fun _ => ⟨?_, fun a ha => s.df a (by simp [ha]), fun a ha => .inl (by simp [ha])⟩, (fun h => nomatch h), fun h => nomatch h⟩
  refine List.nodup_append.mpr ⟨hn.1, hA, ?_⟩
  rintro a ha b hb rfl
  exact hn.2 a hb ha
theorem mv_other {t : T} (h : (match t with
    | .var _ => false
    | .tup _ => false
    | _ => true) = true) : Mi.mv W.gl W.cf t r = W.ev true t r := by
  cases t <;> first
    | rfl
    | cases h
theorem mvs_cons {a s : T} : Mi.mvs W.gl W.cf (.cons a s) r = match Mi.mv W.gl W.cf a r with
    | some (o, r1) => match Mi.mvs W.gl W.cf s r1 with
      | some (os, r2) => some (o :: os, r2)
      | none => none
    | none => none := rfl
theorem mvs_noino : ∀ {t : T} {r : En} {os : List O} {r1 : En}, Mi.mvs W.gl W.cf t r = some (os, r1) → (inos t).all (·.isNone) = true
  | .cons a s, r, os, r1, h => by
    by_cases hi : ∃ i, a = .ino i
    · obtain ⟨i, rfl⟩ := hi
      cases h
    · have hi : ∀ i, a ≠ .ino i := fun i e => hi ⟨i, e⟩
      rw [mvs_cons] at h
      rw [inos_cons hi]
      split at h
      · split at h
        · rename_i e2
          simpa using mvs_noino e2
        · cases h
      · cases h
  | .var _, _, _, _, _ => rfl
  | .con _, _, _, _, _ => rfl
  | .glo _, _, _, _, _ => rfl
  | .fn _, _, _, _, _ => rfl
  | .bin _ _ _, _, _, _, _ => rfl
  | .not _, _, _, _, _ => rfl
  | .neg _, _, _, _, _ => rfl
  | .and _ _, _, _, _, _ => rfl
  | .or _ _, _, _, _, _ => rfl
  | .cmp _ _ _, _, _, _, _ => rfl
  | .cmp2 _ _ _ _ _, _, _, _, _ => rfl
  | .ife _ _ _, _, _, _, _ => rfl
  | .tup _, _, _, _, _ => rfl
  | .lst _, _, _, _, _ => rfl
  | .idx _ _, _, _, _, _ => rfl
  | .slc _ _ _, _, _, _, _ => rfl
  | .rev _, _, _, _, _ => rfl
  | .lc _ _ _ _ _ _, _, _, _, _ => rfl
  | .call _ _, _, _, _, _ => rfl
  | .callk _ _ _ _ _, _, _, _, _ => rfl
  | .ino _, _, _, _, _ => rfl
  | .bi _ _, _, _, _, _ => rfl
  | .isi _ _, _, _, _, _ => rfl
  | .lrg _, _, _, _, _ => rfl
  | .lrg2 _ _, _, _, _, _ => rfl
  | .app _ _, _, _, _, _ => rfl
  | .ext _ _, _, _, _, _ => rfl
  | .pop _, _, _, _, _ => rfl
  | .popi _ _, _, _, _, _ => rfl
  | .nil, _, _, _, _ => rfl
mutual
theorem mv_ok {X : Cx} {sc sc0 : Scope} (gd : W.G X sc sc0) : ∀ (t : T) (r : En) (e : Expr), W.mt X.N sc t e = true → PE X e (tR X.K W.L false false r (Mi.mv W.gl W.cf t r))
  | .var i, r, e, h => by
    have p := se_var (W := W) false i r e gd h
    cases eg : ge r i with
    | none =>
      have : Mi.mv W.gl W.cf (.var i) r = none := by simp only [mv, eg]
      rw [this]
      exact pe_bot fun σ H Q => tR_none
    | some o =>
      have : Mi.mv W.gl W.cf (.var i) r = some (o, if o.isVal then r else r.set i none) := by simp only [mv, eg]
      rw [this]
      refine pe_wk p fun σ H Q q => ?_
      obtain ⟨F, B, s, q⟩ := tR_mk q
      by_cases hv : o.isVal = true
      · rw [if_pos hv] at q
        obtain ⟨v, A, e1, e2, e3⟩ := s.ge eg
        have := RO.isVal e2 hv
        subst this
        exact ⟨v, e1, q v H F B [] ⟨Tr.refl, s, e2, fun _ => ⟨by simpa using s.nd, by simp, by simp⟩, (fun h => nomatch h), fun h => nomatch h⟩⟩
      · rw [if_neg hv] at q
        obtain ⟨v, B', A, e1, p⟩ := take_name s eg
        exact ⟨v, e1, q v H F B' A p⟩
  | .tup as, r, e, h => by
    simp only [Wd.mt, mt] at h
    split at h <;> try (cases h; done)
    rename_i es k pos
    have pa := mvs_ok gd as r es h
    simp only [mv]
    split
    · rename_i os r1 ea
      have hn := mvs_noino ea
      split
      · rename_i ds ed
        split
        · rename_i hz
          refine pe_wk (pe_tup pa) fun σ H Q q => ?_
          obtain ⟨F, B, s, q⟩ := tR_mk q
          refine ⟨F, B, _, _, s, ea, fun vs H1 F1 B1 A p => ?_⟩
          have ro := roi_rol hn p.ro
          obtain ⟨rp, rfl⟩ := rol_vals ro ed
          exact ⟨by rw [rpl_len rp]; exact hz, fun x hx => q _ _ F1 B1 _ (Ps.tuplev p.tr p.st rp hx fun hq => nomatch hq)⟩
        · exact pe_bot fun σ H Q => tR_none
      · split
        · rename_i hz
          refine pe_wk (pe_tup pa) fun σ H Q q => ?_
          obtain ⟨F, B, s, q⟩ := tR_mk q
          refine ⟨F, B, _, _, s, ea, fun vs H1 F1 B1 A p => ?_⟩
          have ro := roi_rol hn p.ro
          obtain ⟨f1, f2, f3⟩ := p.fr rfl
          exact ⟨by rw [rol_len ro]; exact hz, fun x hx => q _ _ F1 B1 _ (Ps.tuple p.tr p.st ro hx f1 f2 f3 fun hq => nomatch hq)⟩
        · exact pe_bot fun σ H Q => tR_none
    · exact pe_bot fun σ H Q => tR_none
  | .con x1, r, e, h => pe_wk ((snd W (.con x1)).e true r X sc sc0 e gd h) fun σ H Q q => tR_dq (mv_other (W := W) (r := r) (t := .con x1) rfl ▸ q)
  | .glo x1, r, e, h => pe_wk ((snd W (.glo x1)).e true r X sc sc0 e gd h) fun σ H Q q => tR_dq (mv_other (W := W) (r := r) (t := .glo x1) rfl ▸ q)
  | .fn x1, r, e, h => pe_wk ((snd W (.fn x1)).e true r X sc sc0 e gd h) fun σ H Q q => tR_dq (mv_other (W := W) (r := r) (t := .fn x1) rfl ▸ q)
  | .bin x1 x2 x3, r, e, h => pe_wk ((snd W (.bin x1 x2 x3)).e true r X sc sc0 e gd h) fun σ H Q q => tR_dq (mv_other (W := W) (r := r) (t := .bin x1 x2 x3) rfl ▸ q)
  | .not x1, r, e, h => pe_wk ((snd W (.not x1)).e true r X sc sc0 e gd h) fun σ H Q q => tR_dq (mv_other (W := W) (r := r) (t := .not x1) rfl ▸ q)
  | .neg x1, r, e, h => pe_wk ((snd W (.neg x1)).e true r X sc sc0 e gd h) fun σ H Q q => tR_dq (mv_other (W := W) (r := r) (t := .neg x1) rfl ▸ q)
  | .and x1 x2, r, e, h => pe_wk ((snd W (.and x1 x2)).e true r X sc sc0 e gd h) fun σ H Q q => tR_dq (mv_other (W := W) (r := r) (t := .and x1 x2) rfl ▸ q)
  | .or x1 x2, r, e, h => pe_wk ((snd W (.or x1 x2)).e true r X sc sc0 e gd h) fun σ H Q q => tR_dq (mv_other (W := W) (r := r) (t := .or x1 x2) rfl ▸ q)
  | .cmp x1 x2 x3, r, e, h => pe_wk ((snd W (.cmp x1 x2 x3)).e true r X sc sc0 e gd h) fun σ H Q q => tR_dq (mv_other (W := W) (r := r) (t := .cmp x1 x2 x3) rfl ▸ q)
  | .cmp2 x1 x2 x3 x4 x5, r, e, h => pe_wk ((snd W (.cmp2 x1 x2 x3 x4 x5)).e true r X sc sc0 e gd h) fun σ H Q q => tR_dq (mv_other (W := W) (r := r) (t := .cmp2 x1 x2 x3 x4 x5) rfl ▸ q)
  | .ife x1 x2 x3, r, e, h => pe_wk ((snd W (.ife x1 x2 x3)).e true r X sc sc0 e gd h) fun σ H Q q => tR_dq (mv_other (W := W) (r := r) (t := .ife x1 x2 x3) rfl ▸ q)
  | .lst x1, r, e, h => pe_wk ((snd W (.lst x1)).e true r X sc sc0 e gd h) fun σ H Q q => tR_dq (mv_other (W := W) (r := r) (t := .lst x1) rfl ▸ q)
  | .idx x1 x2, r, e, h => pe_wk ((snd W (.idx x1 x2)).e true r X sc sc0 e gd h) fun σ H Q q => tR_dq (mv_other (W := W) (r := r) (t := .idx x1 x2) rfl ▸ q)
  | .slc x1 x2 x3, r, e, h => pe_wk ((snd W (.slc x1 x2 x3)).e true r X sc sc0 e gd h) fun σ H Q q => tR_dq (mv_other (W := W) (r := r) (t := .slc x1 x2 x3) rfl ▸ q)
  | .rev x1, r, e, h => pe_wk ((snd W (.rev x1)).e true r X sc sc0 e gd h) fun σ H Q q => tR_dq (mv_other (W := W) (r := r) (t := .rev x1) rfl ▸ q)
  | .lc x1 x2 x3 x4 x5 x6, r, e, h => pe_wk ((snd W (.lc x1 x2 x3 x4 x5 x6)).e true r X sc sc0 e gd h) fun σ H Q q => tR_dq (mv_other (W := W) (r := r) (t := .lc x1 x2 x3 x4 x5 x6) rfl ▸ q)
  | .call x1 x2, r, e, h => pe_wk ((snd W (.call x1 x2)).e true r X sc sc0 e gd h) fun σ H Q q => tR_dq (mv_other (W := W) (r := r) (t := .call x1 x2) rfl ▸ q)
  | .callk x1 x2 x3 x4 x5, r, e, h => pe_wk ((snd W (.callk x1 x2 x3 x4 x5)).e true r X sc sc0 e gd h) fun σ H Q q => tR_dq (mv_other (W := W) (r := r) (t := .callk x1 x2 x3 x4 x5) rfl ▸ q)
  | .ino x1, r, e, h => pe_wk ((snd W (.ino x1)).e true r X sc sc0 e gd h) fun σ H Q q => tR_dq (mv_other (W := W) (r := r) (t := .ino x1) rfl ▸ q)
  | .bi x1 x2, r, e, h => pe_wk ((snd W (.bi x1 x2)).e true r X sc sc0 e gd h) fun σ H Q q => tR_dq (mv_other (W := W) (r := r) (t := .bi x1 x2) rfl ▸ q)
  | .isi x1 x2, r, e, h => pe_wk ((snd W (.isi x1 x2)).e true r X sc sc0 e gd h) fun σ H Q q => tR_dq (mv_other (W := W) (r := r) (t := .isi x1 x2) rfl ▸ q)
  | .lrg x1, r, e, h => pe_wk ((snd W (.lrg x1)).e true r X sc sc0 e gd h) fun σ H Q q => tR_dq (mv_other (W := W) (r := r) (t := .lrg x1) rfl ▸ q)
  | .lrg2 x1 x2, r, e, h => pe_wk ((snd W (.lrg2 x1 x2)).e true r X sc sc0 e gd h) fun σ H Q q => tR_dq (mv_other (W := W) (r := r) (t := .lrg2 x1 x2) rfl ▸ q)
  | .app x1 x2, r, e, h => pe_wk ((snd W (.app x1 x2)).e true r X sc sc0 e gd h) fun σ H Q q => tR_dq (mv_other (W := W) (r := r) (t := .app x1 x2) rfl ▸ q)
  | .ext x1 x2, r, e, h => pe_wk ((snd W (.ext x1 x2)).e true r X sc sc0 e gd h) fun σ H Q q => tR_dq (mv_other (W := W) (r := r) (t := .ext x1 x2) rfl ▸ q)
  | .pop x1, r, e, h => pe_wk ((snd W (.pop x1)).e true r X sc sc0 e gd h) fun σ H Q q => tR_dq (mv_other (W := W) (r := r) (t := .pop x1) rfl ▸ q)
  | .popi x1 x2, r, e, h => pe_wk ((snd W (.popi x1 x2)).e true r X sc sc0 e gd h) fun σ H Q q => tR_dq (mv_other (W := W) (r := r) (t := .popi x1 x2) rfl ▸ q)
  | .nil, r, e, h => pe_wk ((snd W (.nil)).e true r X sc sc0 e gd h) fun σ H Q q => tR_dq (mv_other (W := W) (r := r) (t := .nil) rfl ▸ q)
  | .cons x1 x2, r, e, h => pe_wk ((snd W (.cons x1 x2)).e true r X sc sc0 e gd h) fun σ H Q q => tR_dq (mv_other (W := W) (r := r) (t := .cons x1 x2) rfl ▸ q)
theorem mvs_ok {X : Cx} {sc sc0 : Scope} (gd : W.G X sc sc0) : ∀ (t : T) (r : En) (es : List Expr), W.mts X.N sc t es = true → PA X es (tRs X.K W.L false true (inos t) r (Mi.mvs W.gl W.cf t r))
  | .nil, r, es, h => by
    have := mts_nil h
    subst this
    refine pa_wk pa_nil fun σ H Q q => ?_
    simp only [mvs] at q
    obtain ⟨F, B, s, q⟩ := tRs_mk q
    exact q [] H F B [] (pss_nil s)
  | .cons a s, r, es, h => by
    rcases mts_cons h with ⟨i, x, p, es', rfl, rfl, e1, e2, e3, e4⟩ | ⟨e, es', rfl, hp, he, hes⟩
    · exact pa_bot fun σ H Q => tRs_none
    · have hi := mt_noino he
      rw [inos_cons hi, mvs_cons]
      split
      · rename_i o r1 ea
        split
        · rename_i os r2 eb
          refine pa_wk (pa_cons (mv_ok gd a r e he) (mvs_ok gd s r1 es' hes) (starE hp)) fun σ H Q q => ?_
          obtain ⟨F, B, s, q⟩ := tRs_mk q
          refine ⟨F, B, o, r1, s, ea, fun v H1 F1 B1 A1 p1 => ⟨F1, B1, os, r2, p1.st, eb, fun vs H2 F2 B2 A2 p2 => ?_⟩⟩
          exact q _ H2 F2 B2 _ (pss_cons (q := false) (sq := false) (apl := false) p1 p2 (by simp))
        · exact pa_bot fun σ H Q => tRs_none
      · exact pa_bot fun σ H Q => tRs_none
  | .var _, _, _, h => Bool.noConfusion (show false = true from h)
  | .con _, _, _, h => Bool.noConfusion (show false = true from h)
  | .glo _, _, _, h => Bool.noConfusion (show false = true from h)
  | .fn _, _, _, h => Bool.noConfusion (show false = true from h)
  | .bin _ _ _, _, _, h => Bool.noConfusion (show false = true from h)
  | .not _, _, _, h => Bool.noConfusion (show false = true from h)
  | .neg _, _, _, h => Bool.noConfusion (show false = true from h)
  | .and _ _, _, _, h => Bool.noConfusion (show false = true from h)
  | .or _ _, _, _, h => Bool.noConfusion (show false = true from h)
  | .cmp _ _ _, _, _, h => Bool.noConfusion (show false = true from h)
  | .cmp2 _ _ _ _ _, _, _, h => Bool.noConfusion (show false = true from h)
  | .ife _ _ _, _, _, h => Bool.noConfusion (show false = true from h)
  | .tup _, _, _, h => Bool.noConfusion (show false = true from h)
  | .lst _, _, _, h => Bool.noConfusion (show false = true from h)
  | .idx _ _, _, _, h => Bool.noConfusion (show false = true from h)
  | .slc _ _ _, _, _, h => Bool.noConfusion (show false = true from h)
  | .rev _, _, _, h => Bool.noConfusion (show false = true from h)
  | .lc _ _ _ _ _ _, _, _, h => Bool.noConfusion (show false = true from h)
  | .call _ _, _, _, h => Bool.noConfusion (show false = true from h)
  | .callk _ _ _ _ _, _, _, h => Bool.noConfusion (show false = true from h)
  | .ino _, _, _, h => Bool.noConfusion (show false = true from h)
  | .bi _ _, _, _, h => Bool.noConfusion (show false = true from h)
  | .isi _ _, _, _, h => Bool.noConfusion (show false = true from h)
  | .lrg _, _, _, h => Bool.noConfusion (show false = true from h)
  | .lrg2 _ _, _, _, h => Bool.noConfusion (show false = true from h)
  | .app _ _, _, _, h => Bool.noConfusion (show false = true from h)
  | .ext _ _, _, _, h => Bool.noConfusion (show false = true from h)
  | .pop _, _, _, h => Bool.noConfusion (show false = true from h)
  | .popi _ _, _, _, h => Bool.noConfusion (show false = true from h)
end
theorem sts_ret {e : T} : Sts W (.ret e) := sts_mk (fun V hV r X sc st gd hp h => by
  simp only [Wd.mtS, mtS] at h
  simp only [Wd.ex, ex]
  cases ea : Mi.mv W.gl W.cf e r with
  | none => exact ps_bot fun D σ H => tSt_none
  | some p =>
    obtain ⟨o, r1⟩ := p
    split at h
    · rename_i x pos
      have p := mv_ok gd e r x h
      rw [ea] at p
      refine ps_wk (ps_ret p) fun D σ H q => ?_
      obtain ⟨F, B, s, q⟩ := tSt_mk q
      refine ⟨F, B, _, _, s, rfl, fun v H1 F1 B1 A p => ?_⟩
      obtain ⟨f1, f2, f3⟩ := p.fr rfl
      exact q σ v H1 F1 B1 A p.tr p.st But.refl p.ro f1 f2 f3
    · rename_i pos
      have he : e = .con .none := by
        cases e with
        | con d => cases d <;> first
          | rfl
          | cases h
        | _ => cases h
      subst he
      cases ea
      refine ps_wk ps_retN fun D σ H q => ?_
      obtain ⟨F, B, s, q⟩ := tSt_mk q
      exact q σ .non H F B [] Tr.refl s But.refl (rp_ro rfl) (by simpa using s.nd) (by simp) (by simp)
    · cases h) fun _ _ _ => rfl
/-- in place -/
theorem aug_op {X : Cx} (op : Bop) (o : Operator) (hb : bopB op o = true) (d e : D) (res : O) (he : augD op d e = some res) : ∃ (R : R2) (x : D), OpR X (inplaceOp o) R ∧ res = .val x ∧
    ∀ (K : PySem.W.Frag) (F : Fz) (H : Hp) (v1 v2 : V), Rp K F H d v1 → Rp K F H e v2 → ∀ Q : VK, (∀ v, (∀ K F H, Rp K F H x v) → Q v H) → R v1 v2 H Q := by
  unfold augD at he
  split at he
  · cases he
  · rename_i i j hne
    cases op <;> (cases o <;> simp only [bopB, Bool.false_eq_true] at hb) <;> simp only [binD, iv] at he
    · cases he
      exact ⟨_, _, iop_add, rfl, fun K F H v1 v2 h1 h2 Q q => by
        simp only [Rp] at h1 h2
        exact ⟨_, _, h1, h2, q _ fun _ _ _ => rfl⟩⟩
    · cases he
      exact ⟨_, _, iop_sub, rfl, fun K F H v1 v2 h1 h2 Q q => by
        simp only [Rp] at h1 h2
        exact ⟨_, _, h1, h2, q _ fun _ _ _ => rfl⟩⟩
    · split at he <;> try (cases he; done)
      rename_i hm
      cases he
      exact ⟨_, _, iop_mul, rfl, fun K F H v1 v2 h1 h2 Q q => by
        simp only [Rp] at h1 h2
        exact ⟨_, _, h1, h2, by simpa [mulOk, CMul] using hm, q _ fun _ _ _ => rfl⟩⟩
    · split at he <;> try (cases he; done)
      rename_i hm
      cases he
      exact ⟨_, _, iop_fdiv, rfl, fun K F H v1 v2 h1 h2 Q q => by
        simp only [Rp] at h1 h2
        exact ⟨_, _, h1, h2, hm, q _ fun _ _ _ => rfl⟩⟩
    · split at he <;> try (cases he; done)
      rename_i hm
      cases he
      exact ⟨_, _, iop_mod, rfl, fun K F H v1 v2 h1 h2 Q q => by
        simp only [Rp] at h1 h2
        exact ⟨_, _, h1, h2, hm, q _ fun _ _ _ => rfl⟩⟩
    · exact absurd rfl hne
  · cases o <;> simp only [bopB, Bool.false_eq_true] at hb
    simp only [binD] at he
    split at he <;> try (cases he; done)
    rename_i hm
    cases he
    exact ⟨_, _, iop_add_str, rfl, fun K F H v1 v2 h1 h2 Q q => by
      simp only [Rp] at h1 h2
      exact ⟨_, _, h1, h2, hm, q _ fun _ _ _ => rfl⟩⟩
  · cases he
theorem sts_aug {i : Nat} {op : Bop} {e : T} : Sts W (.aug i op e) := sts_mk (fun V hV r X sc st gd hp h => by
  simp only [Wd.mtS, mtS] at h
  split at h <;> try (cases h; done)
  rename_i x p o value pos
  simp only [Bool.and_eq_true, decide_eq_true_eq] at h
  obtain ⟨⟨⟨⟨hi, hl⟩, hok⟩, ho⟩, he⟩ := h
  obtain ⟨g1, g2⟩ := gd.fnl x hl
  simp only [Wd.ex, ex]
  split
  · rename_i d eg
    split
    · rename_i y r1 ea
      split
      · rename_i res eo
        split
        · rename_i hv
          obtain ⟨R, z, hR, rfl, hq⟩ := aug_op (X := X) op o ho d y res eo
          refine ps_wk (ps_aug gd.nd hi g1 ((snd W e).e false r X sc sc value gd he) hR g2) fun D σ H q => ?_
          obtain ⟨F, B, s, q⟩ := tSt_mk q
          obtain ⟨v0, A0, e1, e2, _⟩ := s.ge eg
          refine ⟨v0, e1, F, B, _, _, s, ea, fun v H1 F1 B1 A p => ?_⟩
          have k0 : Rp X.K F1 H1 d v0 := Rp.keep p.tr.e1 (p.tr.kept s (A := []) (by simp)) d v0 (ro_rp e2)
          refine hq X.K F1 H1 v0 v k0 (ro_rp p.ro) _ fun w hw => ?_
          have hlen : i < r1.length := by
            have := EnvR.len _ _ _ p.st.env
            by_cases hh : i < σ.length
            · omega
            · rw [List.getElem?_eq_none (by omega)] at e1; cases e1
          obtain ⟨B', s', hb⟩ := p.st.put (A := []) hlen (rp_ro (hw X.K F1 H1)) (by simpa using p.st.nd) (by simp)
          exact q _ H1 F1 B' (p.tr.withB fun a ha => (hb a ha).elim (p.tr.nb a) (fun hh => by simp at hh)) s' (But.set (hV i (by simp [S.st])))
        · exact ps_bot fun D σ H => tSt_none
      · exact ps_bot fun D σ H => tSt_none
    · exact ps_bot fun D σ H => tSt_none
  · exact ps_bot fun D σ H => tSt_none) fun _ _ _ => rfl
theorem pget_list {X : Cx} : PGet X (rIxL X.K) := by
  intro pins s σ H x y v u Q I rx ry h
  obtain ⟨p, xs, i, z, rfl, rfl, hq, he, q⟩ := h
  cases rx
  obtain ⟨t, rfl⟩ := ry
  obtain ⟨its, r, pl, hz⟩ := I.list hq
  obtain ⟨j, h1, h2, h3, h4, h5⟩ := atI_get he
  obtain ⟨w, ew, rw'⟩ := r.get h2
  have hl := r.length
  have hn := line63
  have fin : EP X pins σ Q w s := ⟨z, H, I, rw', q⟩
  by_cases h0 : 0 ≤ i
  · have hj : i.toNat = j := by
      rw [seqIndex_of h0 h5] at h1
      exact Option.some.inj h1
    exact wpAny_getItem_list pl.isList h0 (by omega) (by rw [hj]; simpa using ew) fin
  · have hj : (i + (its.toArray.size : Int)).toNat = j := by
      rw [seqIndex_neg (by omega) h4] at h1
      rw [List.size_toArray, ← hl]
      exact Option.some.inj h1
    exact wpAny_getItem_list_neg pl.isList (by omega) (by rw [List.size_toArray] <;> omega) (by omega) (by rw [hj]; simpa using ew) fin
theorem getAt_ok : ∀ {ks : List Int} {o c : O} {v : V} {A : List Addr}, RO K L F H o v A → O.getAt ks o = some c → ∃ w A', Wlk H ks v w ∧ RO K L F H c w A'
  | [], o, c, v, A, h, e => by
    simp only [O.getAt, Option.some.injEq] at e
    subst e
    exact ⟨v, A, rfl, h⟩
  | k :: ks, o, c, v, A, h, e => by
    cases o with
    | lst os =>
      simp only [O.getAt] at e
      split at e <;> try (cases e; done)
      rename_i j ej
      split at e <;> try (cases e; done)
      rename_i oj eoj
      simp only [RO] at h
      obtain ⟨a, xs, A1, rfl, h1, h2, rfl⟩ := h
      obtain ⟨x, A2, g1, g2, _⟩ := rol_get h2 eoj
      obtain ⟨w, A3, w1, w2⟩ := getAt_ok g2 e
      refine ⟨w, A3, ⟨a, xs, x, rfl, h1, ?_, w1⟩, w2⟩
      unfold atI
      rw [rol_len h2, ej]
      exact g1
    | _ => simp [O.getAt] at e
theorem nodup_drop {pre post C1 Cj C2 : List Addr} {p : Addr} (h : (pre ++ (p :: (C1 ++ Cj ++ C2)) ++ post).Nodup) : (pre ++ (p :: (C1 ++ [] ++ C2)) ++ post).Nodup := by
  refine List.Nodup.sublist ?_ h
  refine List.Sublist.append (List.Sublist.append (List.Sublist.refl _) (List.Sublist.cons₂ _ ?_)) (List.Sublist.refl _)
  simp only [List.append_nil, List.append_assoc]
  exact List.Sublist.append (List.Sublist.refl _) (List.sublist_append_right _ _)
theorem mem_mid' {pre post C1 Cj C2 : List Addr} {p a : Addr} (h : a ∈ pre ++ (p :: (C1 ++ [] ++ C2)) ++ post) : a ∈ pre ++ (p :: (C1 ++ Cj ++ C2)) ++ post := by
  simp only [List.append_assoc, List.mem_append, List.mem_cons, List.cons_append, List.append_nil, List.nil_append] at h ⊢
  rcases h with h | h | h | h | h
  · exact .inl h
  · exact .inr (.inl h)
  · exact .inr (.inr (.inl h))
  · exact .inr (.inr (.inr (.inr (.inl h))))
  · exact .inr (.inr (.inr (.inr (.inr h))))
theorem sub_aug {N : List Str} {sc : Scope} {b : T} {y : Expr} (h : W.mt N sc b y = true) (ov iv new : Value) : augStore y ov iv new = (do holding [new, ov, iv] (setItem ov iv new); release [new, ov, iv] []; pure .next) := by
  cases y <;> first
    | rfl
    | skip
  exfalso
  cases b <;> exact Bool.noConfusion (show false = true from h)
theorem sts_augs {o i : T} {op : Bop} {e : T} : Sts W (.augs o i op e) := sts_mk (fun V hV r X sc st gd hp h => by
  simp only [Wd.mtS, mtS] at h
  split at h <;> try (cases h; done)
  rename_i x y p oo value pos
  simp only [Bool.and_eq_true] at h
  obtain ⟨⟨⟨hx, hy⟩, ho⟩, he⟩ := h
  simp only [Wd.ex, ex]
  split
  · rename_i pp ep
    obtain ⟨j, ks⟩ := pp
    obtain ⟨px, hpl⟩ := placeL_ok gd ep hx
    have py := ss i r y gd hy
    split
    · rename_i k ei
      rw [ei] at py
      by_cases hqt : e.qt = true
      · rw [if_pos hqt]
        split
        · rename_i d ed
          split
          · rename_i z r1 ea
            split
            · rename_i res er
              split
              · rename_i hv
                obtain ⟨R, zz, hR, rfl, hq⟩ := aug_op (X := X) op oo ho d z res er
                cases es : setAt r1 (j, ks) k (.val zz) with
                | none => exact ps_bot fun D σ H => tSt_none
                | some r2 =>
                  refine ps_wk (ps_augS px py pget_list ((snd W e).e false r X sc sc value gd he) hR set_list (fun ov iv new => sub_aug hy ov iv new)) fun D σ H q => ?_
                  obtain ⟨F, B, s, q⟩ := tSt_mk q
                  obtain ⟨v0, p0, xs, e1, e2, e3⟩ := hpl s
                  refine ⟨F, B, v0, _, s, e1, e2, fun H1 k1 => ⟨F, B, _, s.same k1, rfl, fun v2 H2 A2 k2 o2 i2 => ?_⟩⟩
                  have e4 := ro_rp o2
                  simp only [Rp] at e4
                  subst e4
                  have g12 : ∀ a u, H a = some u → H2 a = some u := fun a u e => k2 a u (k1 a u e)
                  have s2 := s.same g12
                  -- the item that stands there
                  simp only [getAt] at ed
                  split at ed <;> try (cases ed; done)
                  rename_i root eg
                  split at ed <;> try (cases ed; done)
                  rename_i os0 ec
                  obtain ⟨v0', A0, f1, f2, _⟩ := s2.ge eg
                  rw [e1] at f1
                  cases f1
                  obtain ⟨w, A', w1, w2⟩ := getAt_ok f2 ec
                  have hw : w = .ref p0 := Wlk.inj w1 (Wlk.grows g12 e2)
                  subst hw
                  have hitem : ∃ x0, atI xs k = some x0 ∧ Rp X.K F H2 d x0 := by
                    simp only [RO] at w2
                    obtain ⟨a, xs', A1, e5, h1, h2, _⟩ := w2
                    cases e5
                    rw [g12 _ _ e3] at h1
                    cases h1
                    obtain ⟨x0, A3, q1, q2, _⟩ := rol_at h2 ed
                    exact ⟨x0, q1, ro_rp q2⟩
                  obtain ⟨x0, ax, rx⟩ := hitem
                  refine ⟨p0, xs, k, x0, rfl, rfl, SqL.of (g12 _ _ e3), ax, F, B, _, _, s2, ea, fun v H3 F3 B3 A3 p3 => ?_⟩
                  have gq := p3.quiet hqt
                  have rx3 : Rp X.K F3 H3 d x0 := Rp.keep p3.tr.e1 (p3.tr.kept s2 (A := []) (by simp)) d x0 rx
                  refine hq X.K F3 H3 x0 v rx3 (ro_rp p3.ro) _ fun u hu => ?_
                  simp only [setAt] at es
                  split at es <;> try (cases es; done)
                  rename_i root3 er3
                  simp only [Option.map_eq_some_iff] at es
                  obtain ⟨root', eu, rfl⟩ := es
                  obtain ⟨v0', p', os, xs', A1, pre, post, o1, g1, rfl, g2, g3, g4, g5, g6⟩ := stt_upd (setIx_lst k (.val zz)) p3.st er3 eu
                  rw [e1] at g1
                  cases g1
                  have hpp : p' = p0 := by
                    have := Wlk.inj (Wlk.grows (fun a u e => gq a u (g12 a u e)) e2) g2
                    cases this; rfl
                  subst hpp
                  simp only [setIx, Option.map_eq_some_iff] at g5
                  obtain ⟨jj, ej, rfl⟩ := g5
                  have hjl : jj < os.length := (ixN_seq ej).2.1
                  obtain ⟨old, eo⟩ : ∃ old, os[jj]? = some old := ⟨os[jj], List.getElem?_eq_getElem hjl⟩
                  obtain ⟨y0, C1, Cj, C2, rfl, c1, c2, c3, _⟩ := rol_split g4 eo
                  refine ⟨p', xs', k, jj, rfl, rfl, g3, by rw [rol_len g4]; exact ej, ?_⟩
                  have hpB : p' ∈ pre ++ (p' :: (C1 ++ Cj ++ C2)) ++ post := by simp
                  have hdf := p3.st.df p' hpB
                  have hp1 : p' ∉ C1 ++ Cj ++ C2 := by
                    have := p3.st.nd
                    rw [List.append_assoc, List.nodup_append] at this
                    exact (List.nodup_cons.mp (List.nodup_append.mp this.2.1).1).1
                  have kR := c3 F3 (upd H3 p' (.lst (xs'.set jj u))) (fun _ h => h) (kept_upd g3 hdf fun hh => hp1 (by
                    rcases List.mem_append.mp hh with hh | hh <;> simp [hh])) (.val zz) u [] (rp_ro (hu _ _ _))
                  have sub : ∀ a, a ∈ pre ++ (p' :: (C1 ++ [] ++ C2)) ++ post → a ∈ pre ++ (p' :: (C1 ++ Cj ++ C2)) ++ post := fun a ha => mem_mid' ha
                  have st := g6 _ _ (C1 ++ [] ++ C2) rfl kR (by
                    have := p3.st.nd
                    exact nodup_drop this) (fun a ha hf => by
                    rcases List.mem_append.mp ha with ha | ha
                    · exact p3.st.df a (by
                        rcases List.mem_append.mp ha with ha | ha
                        · simp [ha]
                        · simp at ha) hf
                    · exact p3.st.df a (by simp [ha]) hf)
                  have t := ((Tr.same g12).trans p3.tr).trans (tr_upd (u := .lst (xs'.set jj u)) hpB (fun a ha => .inl ha))
                  exact q σ _ F3 _ (t.withB fun a ha => t.nb a (sub a ha)) st But.refl
              · exact ps_bot fun D σ H => tSt_none
            · exact ps_bot fun D σ H => tSt_none
          · exact ps_bot fun D σ H => tSt_none
        · exact ps_bot fun D σ H => tSt_none
      · rw [if_neg hqt]
        exact ps_bot fun D σ H => tSt_none
    · exact ps_bot fun D σ H => tSt_none
  · exact ps_bot fun D σ H => tSt_none) fun _ _ _ => rfl
end
end Mi

end
section
set_option maxHeartbeats 2000000
/-! Mi33: names stored together; all statements. -/
namespace Mi
open PySem L2
section
variable {W : Wd} {K : PySem.W.Frag} {L : Nat → Addr → Prop} {F F1 F2 : Fz} {H H1 H2 : Hp} {r r1 r2 : En} {σ : St} {B B1 B2 A A1 A2 C : List Addr}
def setR : En → List Nat → List O → En
  | r, i :: is, o :: os => setR (r.set i (some o)) is os
  | r, _, _ => r
def setV : St → List Nat → List V → St
  | σ, i :: is, v :: vs => setV (σ.set i (some v)) is vs
  | σ, _, _ => σ
theorem puts : ∀ {is : List Nat} {os : List O} {vs : List V} {A : List Addr} {r : En} {σ : St} {B : List Addr}, Stt K L F H r σ B → ROL K L F H os vs A → (B ++ A).Nodup → (∀ a ∈ A, ¬ F a) → (∀ i ∈ is, i < r.length) → is.length = os.length →
    ∃ B', Stt K L F H (setR r is os) (setV σ is vs) B' ∧ ∀ a ∈ B', a ∈ B ∨ a ∈ A
  | [], os, vs, A, r, σ, B, s, h, nd, df, hi, hl => by
    cases os with
    | nil => exact ⟨B, s, fun a ha => .inl ha⟩
    | cons _ _ => cases hl
  | i :: is, os, vs, A, r, σ, B, s, h, nd, df, hi, hl => by
    cases os with
    | nil => cases hl
    | cons o os =>
      simp only [ROL] at h
      obtain ⟨x, ys, C1, C2, rfl, h1, h2, rfl⟩ := h
      rw [← List.append_assoc] at nd
      have nd' := List.nodup_append.mp nd
      obtain ⟨B', s', hb⟩ := s.put (hi i (by simp)) h1 nd'.1 (fun a ha => df a (by simp [ha]))
      obtain ⟨B3, s3, hb3⟩ := puts (is := is) s' h2 (List.nodup_append.mpr ⟨s'.nd, nd'.2.1, fun a ha b hb' e => nd'.2.2 a (List.mem_append.mpr (hb a ha)) b hb' e⟩) (fun a ha => df a (by simp [ha])) (fun j hj => by simpa using hi j (by simp [hj])) (by simpa using hl)
      refine ⟨B3, s3, fun a ha => ?_⟩
      rcases hb3 a ha with q | q
      · rcases hb a q with q | q
        · exact .inl q
        · exact .inr (by simp [q])
      · exact .inr (by simp [q])
def namesG : List Nat → G
  | [] => .nil
  | i :: is => .cons (.nm i) (namesG is)
theorem stos_names {gl : List (Str × PyData)} : ∀ {is : List Nat} {os : List O} {r r' : En}, stos gl (namesG is) os r = some r' → r' = setR r is os ∧ (∀ i ∈ is, i < r.length) ∧ is.length = os.length
  | [], [], r, r', h => by
    simp only [namesG, stos, Option.some.injEq] at h
    exact ⟨h.symm, by simp, rfl⟩
  | [], _ :: _, r, r', h => by simp [namesG, stos] at h
  | i :: is, [], r, r', h => by simp [namesG, stos] at h
  | i :: is, o :: os, r, r', h => by
    simp only [namesG, stos, sto] at h
    by_cases hi : i < r.length
    · rw [if_pos hi] at h
      obtain ⟨h1, h2, h3⟩ := stos_names h
      refine ⟨h1, fun j hj => ?_, by simp [h3]⟩
      rcases List.mem_cons.mp hj with rfl | hj
      · exact hi
      · simpa using h2 j hj
    · rw [if_neg hi] at h
      cases h
theorem tup_ev {as : T} {o : O} (h : W.ev true (.tup as) r = some (o, r1)) : (inos as).all (·.isNone) = true ∧ ∃ os, W.evs true as r = some (os, r1) ∧ ∀ gs r0, sto W.gl (.tp gs) o r0 = stos W.gl gs os r0 := by
  simp only [Wd.ev, ev] at h
  by_cases hn : (inos as).all (·.isNone) = true
  · rw [if_pos hn] at h
    split at h <;> try (cases h; done)
    rename_i os r1' ea
    split at h
    · rename_i ds ed
      split at h <;> try (cases h; done)
      cases h
      refine ⟨hn, os, ea, fun gs r0 => ?_⟩
      simp only [sto]
      rw [← vals_eq ed]
    · split at h <;> try (cases h; done)
      cases h
      exact ⟨hn, os, ea, fun gs r0 => by simp only [sto]⟩
  · rw [if_neg hn] at h
    cases h
theorem mtA_name {N : List Str} {sc : Scope} {g : G} {x : Str} {p : Pos} (h : W.mtA N sc g (.Name x p) = true) : ∃ i, g = .nm i ∧ N[i]? = some x := by
  cases g with
  | nm i =>
    simp only [Wd.mtA, mtA, Bool.and_eq_true, decide_eq_true_eq] at h
    exact ⟨i, rfl, h.1.1⟩
  | _ => exact Bool.noConfusion (show false = true from h)
theorem mtAs_cons {N : List Str} {sc : Scope} {g : G} {e : Expr} {es : List Expr} (h : W.mtAs N sc g (e :: es) = true) : ∃ a s, g = .cons a s ∧ W.mtA N sc a e = true ∧ W.mtAs N sc s es = true := by
  cases g with
  | cons a s =>
    simp only [Wd.mtAs, mtAs, Bool.and_eq_true] at h
    exact ⟨a, s, rfl, h.1.2, h.2⟩
  | _ => exact Bool.noConfusion (show false = true from h)
theorem mtAs_nil {N : List Str} {sc : Scope} {g : G} (h : W.mtAs N sc g [] = true) : g = .nil := by
  cases g with
  | nil => rfl
  | _ => exact Bool.noConfusion (show false = true from h)
theorem set_par {X : Cx} {sc : Scope} (gd : W.G X sc sc) {g : G} {e : T} {tg value : Expr} {pos : Pos} (r : En) (hg : W.mtA X.N sc g tg = true) (he : W.mt X.N sc e value = true) (h1 : asgC sc tg value = true) (V : List Nat) (hV : ∀ i ∈ g.slots, i ∈ V) :
    PS X (.Assign [tg] value pos) (tSt X.K W.L V r (W.ex (.set g e) r)) := by
  have hsc := gd.sc
  have tpl : ∀ {ts : List Expr} {k : Nat} {p : Pos}, W.mtA X.N sc g (.Tuple ts k p) = true → ∃ gs, g = .tp gs ∧ W.mtAs X.N sc gs ts = true := by
    intro ts k p h
    cases g with
    | tp gs =>
      simp only [Wd.mtA, mtA, Bool.and_eq_true] at h
      exact ⟨gs, rfl, h.1⟩
    | _ => exact Bool.noConfusion (show false = true from h)
  have etup : ∀ {vs : List Expr} {k : Nat} {p : Pos}, W.mt X.N sc e (.Tuple vs k p) = true → ∃ as, e = .tup as ∧ W.mts X.N sc as vs = true := by
    intro vs k p h
    cases e with
    | tup as => exact ⟨as, rfl, h⟩
    | _ => exact Bool.noConfusion (show false = true from h)
  have nodupN : ∀ {i j : Nat} {x y : Str}, X.N[i]? = some x → X.N[j]? = some y → x ≠ y → i ≠ j := by
    rintro i j x y a b ne rfl
    rw [a] at b
    exact ne (Option.some.inj b)
  unfold asgC at h1
  split at h1
  · rename_i x px y py k p
    split at h1 <;> try (cases h1; done)
    rename_i a b k2 p2
    obtain ⟨gs, rfl, hgs⟩ := tpl hg
    obtain ⟨as, rfl, has⟩ := etup he
    obtain ⟨ga, gs1, rfl, ha1, hgs1⟩ := mtAs_cons hgs
    obtain ⟨gb, gs2, rfl, hb1, hgs2⟩ := mtAs_cons hgs1
    have := mtAs_nil hgs2
    subst this
    obtain ⟨i, rfl, ei⟩ := mtA_name ha1
    obtain ⟨j, rfl, ej⟩ := mtA_name hb1
    have hsw := h1
    simp only [swap2, Bool.and_eq_true, decide_eq_true_eq] at h1
    obtain ⟨_, _, pa⟩ := (snd W as).a true r X sc sc [a, b] gd has
    simp only [Wd.ex, ex]
    split
    · rename_i o r1 ea
      obtain ⟨hn, os, eas, hsto⟩ := tup_ev (W := W) ea
      rw [hsto]
      cases es : stos W.gl (.cons (.nm i) (.cons (.nm j) .nil)) os r1 with
      | none => exact ps_bot fun D σ H => tSt_none
      | some r2 =>
        obtain ⟨rfl, hlt, hlen⟩ := stos_names (is := [i, j]) es
        refine ps_wk (ps_par gd.calm gd.nd ei ej (nodupN ei ej h1.1.1.1.1.2) (by rw [hsc]; exact h1.1.1.1.1.1.1.1.2) (by rw [hsc]; exact h1.1.1.1.1.1.1.2) pa (swap_two' (by rw [hsc]; exact hsw)) rfl) fun D σ H q => ?_
        obtain ⟨F, B, s, q⟩ := tSt_mk q
        refine ⟨F, B, _, _, s, eas, fun vs H1 F1 B1 A p => ?_⟩
        have ro := roi_rol hn p.ro
        obtain ⟨f1, f2, f3⟩ := p.fr rfl
        obtain ⟨B', s', hb⟩ := puts p.st ro f1 f2 hlt hlen
        have hvl : vs.length = 2 := by rw [rol_len ro, ← hlen]; rfl
        match vs, hvl, s' with
        | [v, w], _, s' => exact ⟨v, w, rfl, q _ H1 F1 B' (p.tr.ext f3 ⟨fun _ h => h, fun _ _ h _ => h, fun _ h => .inl h, fun a ha => .inl (List.mem_append.mpr (hb a ha))⟩) s' ((But.set (hV i (by simp [G.slots]))).trans (But.set (hV j (by simp [G.slots]))))⟩
    · exact ps_bot fun D σ H => tSt_none
  · rename_i x px y py z pz k p
    split at h1 <;> try (cases h1; done)
    rename_i a b c k2 p2
    obtain ⟨gs, rfl, hgs⟩ := tpl hg
    obtain ⟨as, rfl, has⟩ := etup he
    obtain ⟨ga, gs1, rfl, ha1, hgs1⟩ := mtAs_cons hgs
    obtain ⟨gb, gs2, rfl, hb1, hgs2⟩ := mtAs_cons hgs1
    obtain ⟨gc, gs3, rfl, hc1, hgs3⟩ := mtAs_cons hgs2
    have := mtAs_nil hgs3
    subst this
    obtain ⟨i, rfl, ei⟩ := mtA_name ha1
    obtain ⟨j, rfl, ej⟩ := mtA_name hb1
    obtain ⟨l, rfl, el⟩ := mtA_name hc1
    have hsw := h1
    simp only [swap3, Bool.and_eq_true, decide_eq_true_eq] at h1
    obtain ⟨⟨⟨⟨⟨⟨⟨⟨⟨⟨⟨⟨⟨k1, k2⟩, k3⟩, k3'⟩, k4⟩, k4'⟩, k5⟩, k5'⟩, k5''⟩, _⟩, _⟩, _⟩, _⟩, _⟩ := h1
    obtain ⟨_, _, pa⟩ := (snd W as).a true r X sc sc [a, b, c] gd has
    simp only [Wd.ex, ex]
    split
    · rename_i o r1 ea
      obtain ⟨hn, os, eas, hsto⟩ := tup_ev (W := W) ea
      rw [hsto]
      cases es : stos W.gl (.cons (.nm i) (.cons (.nm j) (.cons (.nm l) .nil))) os r1 with
      | none => exact ps_bot fun D σ H => tSt_none
      | some r2 =>
        obtain ⟨rfl, hlt, hlen⟩ := stos_names (is := [i, j, l]) es
        refine ps_wk (ps_par3 gd.calm gd.nd ei ej el (nodupN ei ej k5) (nodupN ei el k5') (nodupN ej el k5'') (by rw [hsc]; exact k2) (by rw [hsc]; exact k3) (by rw [hsc]; exact k3') pa (swap_three (by rw [hsc]; exact hsw)) rfl) fun D σ H q => ?_
        obtain ⟨F, B, s, q⟩ := tSt_mk q
        refine ⟨F, B, _, _, s, eas, fun vs H1 F1 B1 A p => ?_⟩
        have ro := roi_rol hn p.ro
        obtain ⟨f1, f2, f3⟩ := p.fr rfl
        obtain ⟨B', s', hb⟩ := puts p.st ro f1 f2 hlt hlen
        have hvl : vs.length = 3 := by rw [rol_len ro, ← hlen]; rfl
        match vs, hvl, s' with
        | [u, v, w], _, s' => exact ⟨u, v, w, rfl, q _ H1 F1 B' (p.tr.ext f3 ⟨fun _ h => h, fun _ _ h _ => h, fun _ h => .inl h, fun a ha => .inl (List.mem_append.mpr (hb a ha))⟩) s' (((But.set (hV i (by simp [G.slots]))).trans (But.set (hV j (by simp [G.slots])))).trans (But.set (hV l (by simp [G.slots]))))⟩
    · exact ps_bot fun D σ H => tSt_none
  · cases h1
theorem sts_set {g : G} {e : T} : Sts W (.set g e) := sts_mk (fun V hV r X sc st gd hp h => by
  simp only [Wd.mtS, mtS] at h
  split at h <;> try (cases h; done)
  rename_i tg value pos
  simp only [Bool.and_eq_true, asgOk, Bool.or_eq_true] at h
  obtain ⟨⟨h1, h2⟩, (⟨h3, h4⟩ | h3) | h3⟩ := h
  · exact set_gen gd r h1 h2 h3 h4 V hV
  · exact set_lc gd r h1 h2 h3 V hV
  · exact set_par gd r h1 h2 h3 V hV) fun _ _ _ => rfl
/-- every statement -/
theorem sts (W : Wd) : ∀ s : S, Sts W s
  | .set _ _ => sts_set
  | .aug _ _ _ => sts_aug
  | .augs _ _ _ _ => sts_augs
  | .ex _ => sts_ex
  | .ret _ => sts_ret
  | .ite c a b => sts_ite (sts W a) (sts W b)
  | .whl c b => sts_whl (sts W b)
  | .for_ g k it b => sts_for (sts W b)
  | .pass => sts_pass
  | .brk => sts_brk
  | .cont => sts_cont
  | .sq a b => sts_sq (sts W a) (sts W b)
  | .nop => sts_nop
  | .dead => sts_dead
end
end Mi

end
section
set_option maxHeartbeats 2000000
/-! Mi34: defs. -/
namespace MiF
open PySem PySem.Spec PyProof.Rows L2
theorem fn_g {P : Program} {w : World} {K : PySem.W.Frag} {mg : Str → Option Value} {base : Heap} {k : Nat} {f : Addr} {name qual : Str} {params : Arguments} {body : List Stmt} {scope : Scope} {dV kV doc pm cdv ct oc : Value} {an od : Option Addr}
    {osl : Array (Option Value)} {N ps : List Str} {sp : List V → Hp → VK → Prop} (lk : K.lookup f = some ⟨oc, od, .func (PySem.W.fnOf name qual params body scope dV kV doc pm an cdv ct), osl⟩) (hcd : PySem.W.codeIn K cdv qual = true) (S : FnScope N ps scope)
    (len : ∀ vs H Q, sp vs H Q → vs.length = ps.length)
    (hbody : ∀ (A : Around) (outer : List Env) (s : Shared) (H : Hp) (vs : List V) (Q : VK), Room k (A.deeper (envOfC qual scope s.heap.objs.size f cdv)) → A.guards = some [] → sp vs H Q →
      ∃ t, PSs (cxOf CX0 P w K mg base N qual scope f cdv A outer s H E0) body t ∧ t { nx := fun _ H' => Q .non H', rt := Q } (start N vs) H) :
    Mi.FnG P w K mg base (k + 1) f (PySem.W.fnOf name qual params body scope dV kV doc pm an cdv ct) ps sp := by
  refine ⟨len, fun A outer s H args us vs Q hr hg e0 hb r hsp => ?_⟩
  have hl := len _ _ _ hsp
  have KX : K.In s.heap := e0.mod.kin.keeps fun b o e => (e0.bs b o e).1
  have lim : s.heap.NoLimit := e0.mod.nolimit.keeps fun b o e => (e0.bs b o e).1
  have hkind : ∀ y ∈ ps.zip us, scope.names.lookup y.1 = some .local ∨ (scope.names.lookup y.1 = some .cell ∧ ((cellsFrom (s.heap.objs.size + 1) scope.names []).lookup y.1).isSome = true) := fun ⟨n, v⟩ hy =>
    (S.par n (List.of_mem_zip hy).1).elim .inl fun q => .inr ⟨q, PySem.W.cellsFrom_some _ _ _ (.inl q)⟩
  refine codeAny_call_function hr.depth (KX _ _ lk) rfl S.co S.gen rfl (PySem.W.codeRec_of KX hcd) (hb _ _ _ _ ?_)
  refine wpAny_newFunctionEnv_cells S.kind hkind fun env he s1 x => ?_
  subst he
  refine ⟨lim.keeps x.toInCall.keep, codeAny_func ?_⟩
  obtain ⟨t, ht, hq⟩ := hbody A outer s H vs Q (hr.deeper _) hg hsp
  have I : Inv (cxOf CX0 P w K mg base N qual scope f cdv A outer s H E0) [] (start N vs) H s1 := inv_start S hr.hd e0 hl r x
  refine wpAny_mono (ht.run [] s1 (start N vs) H _ I hq) (fun fl s' hs => ?_) fun e s' hs => hs
  have stop : ∀ {σ' : L2.St} {H' : Hp} {v : V} {u : Value}, Inv (cxOf CX0 P w K mg base N qual scope f cdv A outer s H E0) [] σ' H' s' → RelV v u → Q v H' → CE outer P w H s Q u s' :=
    fun {σ' H' v u} J rv q => ⟨v, H', J.os, J.bare, J.base, J.hok, rv, q⟩
  match fl, hs with
  | .ret u, ⟨v, σ', H', J, rv, q⟩ => exact stop J rv q
  | .next, ⟨σ', H', J, q⟩ => exact stop (v := V.non) (u := Value.none) J rfl q
  | .brk, ⟨_, _, _, q⟩ => exact q.elim
  | .cont, ⟨_, _, _, q⟩ => exact q.elim
end MiF

end
section
set_option maxHeartbeats 2000000
/-! Mi35: all defs keep what they promise. -/
namespace Mi
open PySem L2
section
variable {K : PySem.W.Frag} {L : Nat → Addr → Prop} {F F1 F2 : Fz} {H H1 H2 : Hp} {r r1 r2 : En} {σ : St} {B B1 B2 A A1 A2 C : List Addr}
theorem env_none : ∀ m : Nat, EnvR K L F H (List.replicate m none) (List.replicate m none) []
  | 0 => by simp [EnvR]
  | m + 1 => by
    simp only [List.replicate_succ, EnvR]
    exact ⟨none, _, rfl, env_none m⟩
theorem env_start (m : Nat) : ∀ {os : List O} {vs : List V} {A : List Addr}, ROL K L F H os vs A → EnvR K L F H (os.map some ++ List.replicate m none) (vs.map some ++ List.replicate m none) A
  | [], _, _, h => by
    simp only [ROL] at h
    obtain ⟨rfl, rfl⟩ := h
    exact env_none m
  | o :: os, _, _, h => by
    simp only [ROL] at h
    obtain ⟨x, ys, A1, A2, rfl, h1, h2, rfl⟩ := h
    simp only [List.map_cons, List.cons_append, EnvR]
    exact ⟨x, _, A1, A2, rfl, h1, env_start m h2, rfl⟩
theorem outs_ok : ∀ {bs : List Bool} {r : En} {σ : St} {B : List Addr} {l : List (Option O)} {vs : List V}, EnvR K L F H r σ B → outsE bs r = some l → bs.length = vs.length → (∀ j : Nat, bs[j]? = some true → σ[j]? = (vs[j]?).map some) →
    ∃ C, OutR K L F H l vs C ∧ C.Sublist B
  | [], r, σ, B, l, vs, h, e, hl, hs => by
    simp only [outsE, Option.some.injEq] at e
    subst e
    cases vs with
    | nil => exact ⟨[], ⟨rfl, rfl⟩, List.nil_sublist B⟩
    | cons _ _ => cases hl
  | true :: bs, r, σ, B, l, vs, h, e, hl, hs => by
    cases vs with
    | nil => cases hl
    | cons v vs =>
      cases r with
      | nil => simp [outsE] at e
      | cons x r =>
        cases x with
        | none => simp [outsE] at e
        | some o =>
          simp only [outsE, Option.map_eq_some_iff] at e
          obtain ⟨l', e, rfl⟩ := e
          simp only [EnvR] at h
          obtain ⟨w, σ', A, B1, rfl, h1, h2, rfl⟩ := h
          have h0 := hs 0 rfl
          simp at h0
          subst h0
          obtain ⟨C, q1, q2⟩ := outs_ok h2 e (by simpa using hl) fun j hj => by simpa using hs (j + 1) (by simpa using hj)
          exact ⟨A ++ C, ⟨_, vs, A, C, rfl, h1, q1, rfl⟩, List.Sublist.append (List.Sublist.refl A) q2⟩
  | false :: bs, r, σ, B, l, vs, h, e, hl, hs => by
    cases vs with
    | nil => cases hl
    | cons v vs =>
      cases r with
      | nil => simp [outsE] at e
      | cons x r =>
        simp only [outsE, Option.map_eq_some_iff] at e
        obtain ⟨l', e, rfl⟩ := e
        cases x with
        | none =>
          simp only [EnvR] at h
          obtain ⟨w, σ', rfl, h2⟩ := h
          obtain ⟨C, q1, q2⟩ := outs_ok h2 e (by simpa using hl) fun j hj => by simpa using hs (j + 1) (by simpa using hj)
          exact ⟨C, ⟨v, vs, rfl, q1⟩, q2⟩
        | some o =>
          simp only [EnvR] at h
          obtain ⟨w, σ', A, B1, rfl, h1, h2, rfl⟩ := h
          obtain ⟨C, q1, q2⟩ := outs_ok h2 e (by simpa using hl) fun j hj => by simpa using hs (j + 1) (by simpa using hj)
          exact ⟨C, ⟨v, vs, rfl, q1⟩, q2.trans (List.sublist_append_right A B1)⟩
end
/-- what of the module is known -/
structure Md (prog : Program) (w : World) (K : PySem.W.Frag) (mg : Str → Option Value) (nm fr : List Str) (gl : List (Str × D)) (kwt : Kwt) (Ps : List Df) : Prop where
  defs : ∀ k x, nm[k]? = some x → ∃ (d : Df) (f : Addr) (name qual : Str) (params : Arguments) (body : List Stmt) (scope : Scope) (dV kV doc pm cdv ct oc : Value) (an od : Option Addr) (osl : Array (Option Value)) (N ps : List Str),
    Ps[k]? = some d ∧ mg x = some (.ref f) ∧ PySem.W.keepIn K (.ref f) = true ∧ K.lookup f = some ⟨oc, od, .func (PySem.W.fnOf name qual params body scope dV kV doc pm an cdv ct), osl⟩ ∧ PySem.W.codeIn K cdv qual = true ∧ FnScope N ps scope ∧
    Binds K (PySem.W.fnOf name qual params body scope dV kV doc pm an cdv ct) ps [] ∧ ps.length = d.np ∧ N.length = d.np + d.nl ∧ mtB N nm fr gl kwt scope d.body body = true ∧
    ∀ np kn pm', (k, np, kn, pm') ∈ kwt → ∀ (s : Shared) (us ws l : List Value), us.length = np → permL (us ++ ws) pm' = some l → l.length = ps.length → ws.length = kn.length → BindsTo s (PySem.W.fnOf name qual params body scope dV kV doc pm an cdv ct) ⟨us, kn.zip ws⟩ (ps.zip l)
  frs : ∀ x ∈ fr, mg x = none
  gls : ∀ (j : Nat) (p : Str × D), gl[j]? = some p → ∃ v u, mg p.1 = some u ∧ RelV v u ∧ ∀ F H, Rp K F H p.2 v
def Lof (nm : List Str) (mg : Str → Option Value) (k : Nat) (f : Addr) : Prop := ∃ x, nm[k]? = some x ∧ mg x = some (.ref f)
section
variable {prog : Program} {w : World} {K : PySem.W.Frag} {mg : Str → Option Value} {base : Heap} {nm fr : List Str} {gl : List (Str × D)} {kwt : Kwt} {Ps : List Df}
theorem row_g (M : Md prog w K mg nm fr gl kwt Ps) (n k : Nat)
    (ih : ∀ (j : Nat) (y : Str), nm[j]? = some y → ∃ f fd ps, mg y = some (.ref f) ∧ PySem.W.keepIn K (.ref f) = true ∧ Lof nm mg j f ∧ Binds K fd ps [] ∧ (∀ base : Heap, FnG prog w K mg base n f fd ps (spD K (Lof nm mg) (cl gl Ps n) j)) ∧
      ∀ np kn pm, (j, np, kn, pm) ∈ kwt → ∀ (s : Shared) (us ws l : List Value), us.length = np → permL (us ++ ws) pm = some l → l.length = ps.length → ws.length = kn.length → BindsTo s fd ⟨us, kn.zip ws⟩ (ps.zip l))
    {d : Df} {f : Addr} {name qual : Str} {params : Arguments} {body : List Stmt} {scope : Scope} {dV kV doc pm cdv ct oc : Value} {an od : Option Addr} {osl : Array (Option Value)} {N ps : List Str}
    (h1 : Ps[k]? = some d) (h4 : K.lookup f = some ⟨oc, od, .func (PySem.W.fnOf name qual params body scope dV kV doc pm an cdv ct), osl⟩) (h5 : PySem.W.codeIn K cdv qual = true) (h6 : FnScope N ps scope) (h8 : ps.length = d.np) (h9 : N.length = d.np + d.nl)
    (h10 : mtB N nm fr gl kwt scope d.body body = true) (base : Heap) : FnG prog w K mg base (n + 1) f (PySem.W.fnOf name qual params body scope dV kV doc pm an cdv ct) ps (spD K (Lof nm mg) (cl gl Ps (n + 1)) k) := by
  refine MiF.fn_g h4 h5 h6 (fun vs H Q h => ?_) (fun A outer s H vs Q hr hg h => ?_)
  · obtain ⟨F, os, A, o, outs, e, ro, _⟩ := h
    simp only [cl, h1] at e
    split at e
    · rename_i hc
      rw [rol_len ro, hc.1, h8]
    · cases e
  · obtain ⟨F, os, A0, o, outs, e, ro, nd, df, dm, q⟩ := h
    simp only [cl, h1] at e
    split at e <;> try (cases e; done)
    rename_i hc
    obtain ⟨c1, c2, c3⟩ := hc

    have gd : (⟨nm, fr, gl, kwt, cl gl Ps n, n, Lof nm mg⟩ : Wd).G (cxOf CX0 prog w K mg base N qual scope f cdv A outer s H E0) scope scope :=
      { calm := rfl
        nd := h6.nd
        gu := hg
        room := hr
        sc := rfl
        fnl := fun y hy => by
          unfold locB at hy
          split at hy
          · rename_i e
            exact ⟨.inl e, .inl rfl⟩
          · rename_i e
            exact ⟨.inr e, .inl rfl⟩
          · cases hy
        fns := fun j y hy => by
          obtain ⟨f, fd, ps, a, b, c, d, e, g⟩ := ih j y hy
          exact ⟨f, fd, ps, a, b, c, d, e _, g⟩
        frs := M.frs
        gls := M.gls }
    obtain ⟨A1, sA, kA⟩ := fzl_ok (bs := d.io) ro (by rw [c1, c2]) nd
    let F1 : Fz := fun a => F a ∨ (a ∈ A0 ∧ a ∉ A1)
    have ro1 : ROL K (Lof nm mg) F1 H (fzL d.io os) vs A1 := kA F1 (fun _ h => .inl h) fun a h1 h2 => .inr ⟨h1, h2⟩
    have tr1 : Tr F A0 H F1 A1 H := ⟨fun _ h => .inl h, fun _ _ h _ => h, fun a h => h.elim .inl fun q => .inr (.inl q.1), fun a h => .inl (sA.mem h)⟩
    have nd1 : A1.Nodup := sA.nodup nd
    have df1 : ∀ a ∈ A1, ¬ F1 a := fun a h q => q.elim (df a (sA.mem h)) fun q => q.2 h
    have dm1 : ∀ a, F1 a → ∃ u, H a = some u := fun a h => h.elim (dm a) fun q => by
      obtain ⟨xs, e⟩ := ROL.own _ _ _ ro a q.1
      exact ⟨_, e⟩
    have pss := (sts (⟨nm, fr, gl, kwt, cl gl Ps n, n, Lof nm mg⟩ : Wd) d.body).blk d.body.st (fun _ h => h) ((fzL d.io os).map some ++ List.replicate d.nl none) _ scope body gd (passes_of rfl) h10
    refine ⟨_, pss, ?_⟩
    have hvl : vs.length = d.np := by rw [rol_len ro, c1]
    have es : EnvR K (Lof nm mg) F1 H ((fzL d.io os).map some ++ List.replicate d.nl none) (L2.start N vs) A1 := by
      have : N.length - vs.length = d.nl := by rw [h9, hvl]; omega
      unfold L2.start
      rw [this]
      exact env_start d.nl ro1
    have st : Stt K (Lof nm mg) F1 H ((fzL d.io os).map some ++ List.replicate d.nl none) (L2.start N vs) A1 := ⟨es, nd1, df1, dm1⟩
    have hslot : ∀ (σ' : St), But d.body.st (L2.start N vs) σ' → ∀ j : Nat, d.io[j]? = some true → σ'[j]? = (vs[j]?).map some := by
      intro σ' u j hj
      have hjn : j ∉ d.body.st := fun hm => by
        have := List.all_eq_true.mp c3 j hm
        rw [List.getD_eq_getElem?_getD, hj] at this
        cases this
      have hjl : j < vs.length := by
        rw [hvl, ← c2]
        exact (List.getElem?_eq_some_iff.mp hj).1
      rw [u.out j hjn]
      unfold L2.start
      rw [List.getElem?_append_left (by simpa using hjl), List.getElem?_map]
    split at e
    · rename_i o' r' er
      simp only [Option.map_eq_some_iff, Prod.mk.injEq] at e
      obtain ⟨l, el, rfl, rfl⟩ := e
      refine ⟨F1, A1, .rt o', r', st, er, fun σ' v H' F' B' A' t0 s' u' ro' n' df' f3 => ?_⟩
      have t := tr1.trans t0
      obtain ⟨C, oc', sc'⟩ := outs_ok s'.env el (by rw [c2, hvl]) (hslot σ' u')
      have nd' := List.nodup_append.mp n'
      refine q v H' F' A' C ⟨t.e1, t.e2, t.e3, s'.dm, ro', oc', List.nodup_append.mpr ⟨nd'.2.1, sc'.nodup nd'.1, fun a ha b hb e => nd'.2.2 b (sc'.mem hb) a ha e.symm⟩, fun a ha => ?_, fun a ha => ?_⟩
      · rcases List.mem_append.mp ha with ha | ha
        · exact df' a ha
        · exact s'.df a (sc'.mem ha)
      · rcases List.mem_append.mp ha with ha | ha
        · exact (f3 a ha).imp (fun h => sA.mem h) id
        · exact t.nb a (sc'.mem ha)
    · rename_i r' er
      simp only [Option.map_eq_some_iff, Prod.mk.injEq] at e
      obtain ⟨l, el, rfl, rfl⟩ := e
      refine ⟨F1, A1, .nx, r', st, er, fun σ' H' F' B' t0 s' u' => ?_⟩
      have t := tr1.trans t0
      obtain ⟨C, oc', sc'⟩ := outs_ok s'.env el (by rw [c2, hvl]) (hslot σ' u')
      exact q .non H' F' [] C ⟨t.e1, t.e2, t.e3, s'.dm, rp_ro rfl, oc', by simpa using sc'.nodup s'.nd, fun a ha => s'.df a (sc'.mem (by simpa using ha)), fun a ha => t.nb a (sc'.mem (by simpa using ha))⟩
    · cases e
theorem all_g (M : Md prog w K mg nm fr gl kwt Ps) : ∀ (n k : Nat) (x : Str), nm[k]? = some x → ∃ f fd ps, mg x = some (.ref f) ∧ PySem.W.keepIn K (.ref f) = true ∧ Lof nm mg k f ∧ Binds K fd ps [] ∧ (∀ base : Heap, FnG prog w K mg base n f fd ps (spD K (Lof nm mg) (cl gl Ps n) k)) ∧
    ∀ np kn pm, (k, np, kn, pm) ∈ kwt → ∀ (s : Shared) (us ws l : List Value), us.length = np → permL (us ++ ws) pm = some l → l.length = ps.length → ws.length = kn.length → BindsTo s fd ⟨us, kn.zip ws⟩ (ps.zip l)
  | 0, k, x, hx => by
    obtain ⟨d, f, name, qual, params, body, scope, dV, kV, doc, pm, cdv, ct, oc, an, od, osl, N, ps, h1, h2, h3, h4, h5, h6, h7, h8, h9, h10, h11⟩ := M.defs k x hx
    refine ⟨f, _, ps, h2, h3, ⟨x, hx, h2⟩, h7, fun base => ⟨fun vs H Q h => ?_, fun A outer s H args us vs Q _ _ _ _ _ h => ?_⟩, h11⟩
    · obtain ⟨F, os, A, o, outs, e, _⟩ := h
      cases e
    · obtain ⟨F, os, A, o, outs, e, _⟩ := h
      cases e
  | n + 1, k, x, hx => by
    obtain ⟨d, f, name, qual, params, body, scope, dV, kV, doc, pm, cdv, ct, oc, an, od, osl, N, ps, h1, h2, h3, h4, h5, h6, h7, h8, h9, h10, h11⟩ := M.defs k x hx
    exact ⟨f, _, ps, h2, h3, ⟨x, hx, h2⟩, h7, row_g M n k (fun j y hy => all_g M n j y hy) h1 h4 h5 h6 h8 h9 h10, h11⟩
end
end Mi

end
section
set_option maxHeartbeats 2000000
/-! Mi36: the law's call. -/
namespace MiF
open PySem PySem.Spec PyProof.Rows L2
/-- the script as the one thing that is known, where the module does not know it -/
theorem scr_heap {P : Program} {w : World} {K : PySem.W.Frag} {h : Heap} {a : Addr} {vs : List Value} {ns : List Int} (KX : K.In h) (ha : h.get? a = some { cls := .type "list", data := .seq vs.toArray }) (hi : IntsAre vs ns) (hl : ns.length ≤ sizeLine) :
    ∃ H : Hp, (∀ b u, H b = some u → b = a ∧ K.lookup a = none ∧ ∃ o xs, u = HO.frz o (.lst xs)) ∧ Mi.Scr K H a ns ∧ HOk P w H h := by
  have rv := vals_ints hi
  have ln := hi.length
  rcases hk : K.lookup a with _ | o
  · let u0 : HO := .frz { cls := .type "list", data := .seq vs.toArray } (.lst (ns.map V.int))
    let T : Hp := fun b => if b = a then some u0 else none
    have at_ : ∀ b u, T b = some u → b = a ∧ u = u0 := fun b u e => by
      by_cases hb : b = a
      · subst hb
        have e' : some u0 = some u := (if_pos rfl).symm.trans e
        exact ⟨rfl, (Option.some.inj e').symm⟩
      · have e' : none = some u := (if_neg hb).symm.trans e
        cases e'
    refine ⟨T, fun b u e => ?_, .inl ⟨_, if_pos rfl⟩, fun b u e => ?_⟩
    · obtain ⟨h1, h2⟩ := at_ b u e
      exact ⟨h1, rfl, _, _, h2⟩
    · obtain ⟨h1, h2⟩ := at_ b u e
      subst h1
      subst h2
      exact ⟨ha, by rw [List.length_map]; exact hl, vs, _, rv, ha⟩
  · have e := (KX a o hk).symm.trans ha
    cases e
    refine ⟨fun _ => none, (fun b u (e : (none : Option HO) = some u) => nomatch e), .inr ⟨_, vs.toArray, _, hk, rfl, rfl, rfl, ?_, by simpa using rv⟩, (fun b u (e : (none : Option HO) = some u) => nomatch e)⟩
    rw [List.size_toArray, ln]
    exact hl
theorem law_g {P : Program} {w : World} {K : PySem.W.Frag} {mg mb : Str → Option Value} {k : Nat} {fa a : Addr} {fd : FuncData} {x : Str} {sp : List V → Hp → VK → Prop} {s1 : Shared} {vs : List Value} {ns : List Int}
    (KX : K.In s1.heap) (hns : s1.heap.Ns mainGlobals mg) (hb : s1.heap.Ns builtinsNs mb) (hbb : ∀ x : Str, x ≠ "__name__" → mb x = bootBuiltins x) (hlim : s1.heap.NoLimit) (hg : s1.gens = #[])
    (ha : s1.heap.get? a = some { cls := .type "list", data := .seq vs.toArray }) (hi : IntsAre vs ns) (hl : ns.length ≤ sizeLine) (hr : Room k callerA) (hgu : callerA.guards = some [])
    (F : ∀ base : Heap, K.In base → base.Ns mainGlobals mg → Mi.FnG P w K mg base k fa fd [x] sp) (hbind : ∀ (s : Shared) (u : Value), BindsTo s fd ⟨[u], []⟩ [(x, u)])
    (hsp : ∀ H : Hp, Mi.Scr K H a ns → sp [.ref a] H fun v _ => v = .bl true) :
    codeAny (model P w) callerA (.call (.ref fa) ⟨[.ref a], []⟩) (fun r s' => r = .ok (.ret (.bool true)) ∧ OldK s1.heap s'.heap ∧ s'.os = s1.os ∧ AllBare s'.gens) s1 := by
  obtain ⟨H, h1, h2, hok⟩ := scr_heap (P := P) (w := w) KX ha hi hl
  have free : ∀ {b : Addr} {o : Obj}, s1.heap.get? b = some o → (∀ vs n, o.data ≠ .seq vs n) → H b = none := fun {b o} e nd => by
    rcases q : H b with _ | u
    · rfl
    · obtain ⟨rfl, _⟩ := h1 b u q
      rw [ha] at e
      cases e
      exact absurd rfl (nd _ _)
  have ns' : ∀ {b : Addr} {m : Str → Option Value}, s1.heap.Ns b m → (hidT s1.heap H).Ns b m := fun {b m} ⟨o, es, ep, e, d, r⟩ =>
    ⟨o, es, ep, hidT_get e (free e fun _ _ z => by rw [d] at z; cases z), d, r⟩
  have kb : K.In (hidT s1.heap H) := fun b o e => by
    refine hidT_get (KX b o e) ?_
    rcases q : H b with _ | u
    · rfl
    · obtain ⟨rfl, hk, _⟩ := h1 b u q
      rw [hk] at e
      cases e
  obtain ⟨ml, l1, l2⟩ := hlim
  have md : Mod K mg (hidT s1.heap H) := ⟨kb, ns' hns, ⟨mb, ns' hb, hbb⟩, ⟨ml, ns' l1, l2⟩⟩
  have nofr : ∀ b : Addr, b ∉ frs [] := fun b z => absurd (show b ∈ ([] : List Addr) from z) (by simp)
  have e0 : Env0 P w K mg (hidT s1.heap H) callerA [] s1 H := ⟨rfl, md, fun b o e => of_hidT e, Nat.le_of_eq (hidT_size _ _), trivial, fun b z => (nofr b z).elim, hok, .of_eq hg⟩
  refine codeAny_mono ((F _ kb (ns' hns)).run callerA [] s1 H ⟨[.ref a], []⟩ [.ref a] [.ref a] _ hr hgu e0 (hbind s1 _) (.cons rfl .nil) (hsp H h2)) fun res s' h => ?_
  match res, h with
  | .error e, h => exact h.elim
  | .ok .next, h => exact h.elim
  | .ok .brk, h => exact h.elim
  | .ok .cont, h => exact h.elim
  | .ok (.ret u), ⟨v, H', os, bare, un, hok', rv, q⟩ =>
    have q : v = .bl true := q
    subst q
    have ru : u = Value.bool true := rv
    subst ru
    refine ⟨rfl, OldK.of_keep fun b o e => ?_, os, bare⟩
    rcases q : H b with _ | u
    · exact un.keep b o e q (nofr b) (by simp)
    · obtain ⟨_, _, ob, xs, rfl⟩ := h1 b u q
      have z1 := (hok b _ q).1
      have z2 := (hok' b _ (un.frzs b ob _ q)).1
      rw [e] at z1
      cases z1
      exact z2
/-- the walk's goal -/
theorem walk_g {l : PySem.W.OpenLaw} {n k : Nat} {q : Program} {loose : List Str} {XP : (Str → Option Value) → Heap → Prop} {YP : World → Heap → Prop} {d : DefRec} {x : Str}
    (hn : l.most = some n) (hn2 : n ≤ sizeLine) (hdf : d.params.defaults = []) (hr : Room k callerA) (hgu : callerA.guards = some [])
    (F : ∀ (w : World) (mg : Str → Option Value) (fa : Addr) (h : Heap), YP w h → h.Ns mainGlobals mg → mg d.name = some (.ref fa) →
      ∃ (K : PySem.W.Frag) (fd : FuncData) (sp : List V → Hp → VK → Prop), K.In h ∧ (∀ (s : Shared) (u : Value), BindsTo s fd ⟨[u], []⟩ [(x, u)]) ∧
        (∀ (H : Hp) (a : Addr) (ns : List Int), ns.length ≤ n → Mi.Scr K H a ns → sp [.ref a] H fun v _ => v = .bl true) ∧
        ∀ base : Heap, K.In base → base.Ns mainGlobals mg → Mi.FnG l.prog w K mg base k fa fd [x] sp) :
    PySem.W.WalkO q loose XP YP l.row.toRowW d [] (fun f vs => PySem.call f vs) := by
  refine Att.attach_call hn hdf fun w s0 s1 mg mb fa o pm cd doc a vs ns G Y ho hd hcd hmg hobj hints hlen hg => ?_
  obtain ⟨K, fd, sp, KX, hb, hsp, hF⟩ := F w mg fa _ Y G.T.g hmg
  exact law_g KX G.T.g G.T.b G.T.builtins G.T.nolimit hg hobj hints (Nat.le_trans hlen hn2) hr hgu hF hb fun H hS => hsp H a ns hlen hS
end MiF

end
section
set_option maxHeartbeats 2000000
/-! Mi37: from the head's facts to the module. -/
namespace Mi
open PySem L2
def scopeB (N ps : List Str) (sc : Scope) : Bool := fnB sc && !sc.isCoroutine && !sc.isGenerator && decide N.Nodup && decide (N.take ps.length = ps) && ps.all (locB sc) && sc.names.all fun y => y.2 != .free
theorem scope_ok {N ps : List Str} {sc : Scope} (h : scopeB N ps sc = true) : FnScope N ps sc := by
  simp only [scopeB, Bool.and_eq_true, Bool.not_eq_true', decide_eq_true_eq] at h
  obtain ⟨⟨⟨⟨⟨⟨h1, h2⟩, h3⟩, h4⟩, h5⟩, h6⟩, h7⟩ := h
  refine ⟨fn_of_b h1, h2, h3, h4, h5, fun x hx => ?_, fun y hy e => ?_⟩
  · have q := List.all_eq_true.mp h6 x hx
    unfold locB at q
    split at q
    · exact .inl (by assumption)
    · exact .inr (by assumption)
    · cases q
  · have q := List.all_eq_true.mp h7 y hy
    rw [e] at q
    cases q
def defB (nm fr : List Str) (gl : List (Str × D)) (kwt : Kwt) (scope : Scope) (body : List Stmt) (df : Df) (N ps : List Str) : Bool :=
  scopeB N ps scope && decide (ps.length = df.np) && decide (N.length = df.np + df.nl) && mtB N nm fr gl kwt scope df.body body
theorem def_row {K : PySem.W.Frag} {mg : Str → Option Value} {nm fr : List Str} {gl : List (Str × D)} {kwt : Kwt} {Ps : List Df} {k : Nat} {x name qual : Str} {params : Arguments} {body : List Stmt} {scope : Scope} {f : Addr} {fd : FuncData} {d : Df} {N ps : List Str}
    (FD : FunD K name qual params body scope [] [] f fd) (hm : mg x = some (.ref f)) (hP : Ps[k]? = some d) (hB : defB nm fr gl kwt scope body d N ps = true)
    (hb : ∀ (kV doc pm : Value) (an : Option Addr) (cdv ct : Value) (us : List Value), us.length = ps.length → bindArgs (PySem.W.fnOf name qual params body scope .none kV doc pm an cdv ct) ⟨us, []⟩ = pure (ps.zip us))
    (hk : ∀ np kn pm', (k, np, kn, pm') ∈ kwt → ∀ (kV doc pm : Value) (an : Option Addr) (cdv ct : Value) (us ws l : List Value), us.length = np → permL (us ++ ws) pm' = some l → l.length = ps.length → ws.length = kn.length →
      bindArgs (PySem.W.fnOf name qual params body scope .none kV doc pm an cdv ct) ⟨us, kn.zip ws⟩ = pure (ps.zip l)) :
    ∃ (d : Df) (f : Addr) (name qual : Str) (params : Arguments) (body : List Stmt) (scope : Scope) (dV kV doc pm cdv ct oc : Value) (an od : Option Addr) (osl : Array (Option Value)) (N ps : List Str),
    Ps[k]? = some d ∧ mg x = some (.ref f) ∧ PySem.W.keepIn K (.ref f) = true ∧ K.lookup f = some ⟨oc, od, .func (PySem.W.fnOf name qual params body scope dV kV doc pm an cdv ct), osl⟩ ∧ PySem.W.codeIn K cdv qual = true ∧ FnScope N ps scope ∧
    Binds K (PySem.W.fnOf name qual params body scope dV kV doc pm an cdv ct) ps [] ∧ ps.length = d.np ∧ N.length = d.np + d.nl ∧ mtB N nm fr gl kwt scope d.body body = true ∧
    ∀ np kn pm', (k, np, kn, pm') ∈ kwt → ∀ (s : Shared) (us ws l : List Value), us.length = np → permL (us ++ ws) pm' = some l → l.length = ps.length → ws.length = kn.length → BindsTo s (PySem.W.fnOf name qual params body scope dV kV doc pm an cdv ct) ⟨us, kn.zip ws⟩ (ps.zip l) := by
  have hbd := FunD.bindsN (ps := ps) FD hb
  obtain ⟨oc, od, dV, kV, doc, pm, an, cdv, ct, osl, rfl, lk, hcd, hD, hK⟩ := FD.ex
  simp only [defB, Bool.and_eq_true, decide_eq_true_eq] at hB
  obtain ⟨⟨⟨b1, b2⟩, b3⟩, b4⟩ := hB
  rcases hD with ⟨_, rfl⟩ | ⟨e, _⟩
  · exact ⟨d, f, name, qual, params, body, scope, .none, kV, doc, pm, cdv, ct, oc, an, od, osl, N, ps, hP, hm, FD.kp, lk, hcd, scope_ok b1, hbd, b2, b3, b4, fun np kn pm' hmem s us ws l h1 h2 h3 h4 => .of_eq (hk np kn pm' hmem kV doc pm an cdv ct us ws l h1 h2 h3 h4)⟩
  · exact absurd rfl e
theorem def_row2 {K : PySem.W.Frag} {nm fr : List Str} {gl : List (Str × D)} {kwt : Kwt} {name qual : Str} {params : Arguments} {body : List Stmt} {scope : Scope} {f : Addr} {fd : FuncData} {d : Df} {N ps : List Str}
    (FD : FunD K name qual params body scope [] [] f fd) (hB : defB nm fr gl kwt scope body d N ps = true) : ∃ (kV doc pm cdv ct oc : Value) (an od : Option Addr) (osl : Array (Option Value)), fd = PySem.W.fnOf name qual params body scope .none kV doc pm an cdv ct ∧
    K.lookup f = some ⟨oc, od, .func (PySem.W.fnOf name qual params body scope .none kV doc pm an cdv ct), osl⟩ ∧ PySem.W.codeIn K cdv qual = true ∧ FnScope N ps scope ∧ ps.length = d.np ∧ N.length = d.np + d.nl ∧ mtB N nm fr gl kwt scope d.body body = true := by
  obtain ⟨oc, od, dV, kV, doc, pm, an, cdv, ct, osl, rfl, lk, hcd, hD, hK⟩ := FD.ex
  simp only [defB, Bool.and_eq_true, decide_eq_true_eq] at hB
  obtain ⟨⟨⟨b1, b2⟩, b3⟩, b4⟩ := hB
  rcases hD with ⟨_, rfl⟩ | ⟨e, _⟩
  · exact ⟨kV, doc, pm, cdv, ct, oc, an, od, osl, rfl, lk, hcd, scope_ok b1, b2, b3, b4⟩
  · exact absurd rfl e
end Mi

end
section
set_option maxHeartbeats 0
namespace Hd
open PySem PySem.Spec PyProof.Rows L2
def top (i : Nat) : Stmt := PySem.Challenge.pw_payingpit_k91_whole_tables_and_lines.main.body.getD i (.Pass ⟨0, 0, 0, 0⟩)
def defName (s : Stmt) : Str := match s with
  | .FunctionDef n _ _ _ _ _ _ _ _ _ => n
  | _ => ""
def dd (i : Nat) : He.DefD := let s := top i; ⟨(defName s, none), defName s, defName s, defArgs s, defBody s, defScope s, [], []⟩
def ixs : List Nat := [1, 2, 3, 4, 14, 15, 16, 17, 18, 19, 20, 21, 22, 23, 24, 25, 26, 27, 28, 29, 30, 31, 32, 33, 34, 36, 37, 38, 39, 40, 42, 46, 47, 48, 49, 50, 51, 52, 53, 54, 55, 56, 57]
def fn : List He.DefD := ixs.map dd
def fa : List He.Fa := fn.map (fun d => He.Fa.glo d.name) ++ K91.fr.map He.Fa.free ++ [He.Fa.int "MOST_PLACES" 10] ++ [He.Fa.int "MOST_AMOUNT" 99] ++ [He.Fa.int "MOST_WAY" 99] ++ [He.Fa.int "MOST_TIP" 999]
abbrev R : PySem.W.OpenRow := PySem.W.OpenLaw.row PySem.Challenge.rw_payingpit_k91_whole_tables_and_lines
abbrev hk : PySem.W.Hook := He.hookD 4 fa fn
def ob (s : PySem.W.SharedT) : He.AlD := He.obsDG 4 fa fn (HandSHeadRun.getT s)
theorem ob_eq (s : PySem.W.SharedT) : ob s = hk.obs s.abs := He.obsDG_eq (HandSHeadRun.getT_eq s)
def loose : List Str := (["is_list", "is_integer", "is_count", "is_position", "PitError", "InvalidEarth", "InvalidEarthPlan", "MOST_PLACES", "MOST_AMOUNT", "MOST_WAY", "MOST_TIP", "pair_is_right", "earth_is_right", "is_row", "tips_are_kept", "plan_is_right", "check_earth", "check_plan", "cost_of", "gives_and_takes", "table_of", "entry_is_right", "table_is_right", "way_of", "line_of", "shifted_cost", "cost", "table", "is_table", "table_cost"] : List Str) ++ (["line", "balance", "_law_pot", "_law_draw", "_law_pick", "_law_earth", "_law_hauled", "_law_least", "_law_hauls", "_law_cost", "_law_some", "_law_first", "_law_plan", "_law_ends", "_law_table", "_law_is_int", "_law_is_table", "_law_table_cost", "_law_tips_cost", "_law_bent", "_law_lines_right", "_law_right", "_law_great"] : List Str)
theorem run (w : World) : HandSHeadRun.RunEq R (PySem.W.view R.prog [57]) hk ob 3000 loose w := by
  intro os
  kernel_rfl
section
variable {w : World} {K : PySem.W.Frag} {h : Heap} {mg : Str → Option Value}
theorem row_is_list (X : K.In h) (G : h.Ns mainGlobals mg) (c : He.SaysD fa fn K) : ∃ (d : Mi.Df) (f : Addr) (name qual : Str) (params : Arguments) (body : List Stmt) (scope : Scope) (dV kV doc pm cdv ct oc : Value) (an od : Option Addr) (osl : Array (Option Value)) (N ps : List Str),
    K91.Ps[0]? = some d ∧ mg "is_list" = some (.ref f) ∧ PySem.W.keepIn K (.ref f) = true ∧ K.lookup f = some ⟨oc, od, .func (PySem.W.fnOf name qual params body scope dV kV doc pm an cdv ct), osl⟩ ∧ PySem.W.codeIn K cdv qual = true ∧ FnScope N ps scope ∧
    Binds K (PySem.W.fnOf name qual params body scope dV kV doc pm an cdv ct) ps [] ∧ ps.length = d.np ∧ N.length = d.np + d.nl ∧ Mi.mtB N K91.nm K91.fr K91.gl K91.kwt scope d.body body = true ∧
    ∀ np kn pm', (0, np, kn, pm') ∈ K91.kwt → ∀ (s : Shared) (us ws l : List Value), us.length = np → Mi.permL (us ++ ws) pm' = some l → l.length = ps.length → ws.length = kn.length → BindsTo s (PySem.W.fnOf name qual params body scope dV kV doc pm an cdv ct) ⟨us, kn.zip ws⟩ (ps.zip l) := by
  obtain ⟨fd, F⟩ := c.def_ 0 (d := dd 1) rfl
  have hm : mg "is_list" = some (.ref _) := He.glo_ok X G (c.fact 0 (f := .glo "is_list") rfl)
  refine Mi.def_row (N := K91.N_is_list) (ps := [("value" : Str)]) F hm rfl (by decide +kernel) (fun _ _ _ _ _ _ us hl => match us, hl with | [_], _ => rfl) ?_
  intro np kn pm' hmem
  simp only [K91.kwt, List.mem_cons, Prod.mk.injEq, List.not_mem_nil, or_false] at hmem
  revert hmem; simp
theorem row_is_integer (X : K.In h) (G : h.Ns mainGlobals mg) (c : He.SaysD fa fn K) : ∃ (d : Mi.Df) (f : Addr) (name qual : Str) (params : Arguments) (body : List Stmt) (scope : Scope) (dV kV doc pm cdv ct oc : Value) (an od : Option Addr) (osl : Array (Option Value)) (N ps : List Str),
    K91.Ps[1]? = some d ∧ mg "is_integer" = some (.ref f) ∧ PySem.W.keepIn K (.ref f) = true ∧ K.lookup f = some ⟨oc, od, .func (PySem.W.fnOf name qual params body scope dV kV doc pm an cdv ct), osl⟩ ∧ PySem.W.codeIn K cdv qual = true ∧ FnScope N ps scope ∧
    Binds K (PySem.W.fnOf name qual params body scope dV kV doc pm an cdv ct) ps [] ∧ ps.length = d.np ∧ N.length = d.np + d.nl ∧ Mi.mtB N K91.nm K91.fr K91.gl K91.kwt scope d.body body = true ∧
    ∀ np kn pm', (1, np, kn, pm') ∈ K91.kwt → ∀ (s : Shared) (us ws l : List Value), us.length = np → Mi.permL (us ++ ws) pm' = some l → l.length = ps.length → ws.length = kn.length → BindsTo s (PySem.W.fnOf name qual params body scope dV kV doc pm an cdv ct) ⟨us, kn.zip ws⟩ (ps.zip l) := by
  obtain ⟨fd, F⟩ := c.def_ 1 (d := dd 2) rfl
  have hm : mg "is_integer" = some (.ref _) := He.glo_ok X G (c.fact 1 (f := .glo "is_integer") rfl)
  refine Mi.def_row (N := K91.N_is_integer) (ps := [("value" : Str)]) F hm rfl (by decide +kernel) (fun _ _ _ _ _ _ us hl => match us, hl with | [_], _ => rfl) ?_
  intro np kn pm' hmem
  simp only [K91.kwt, List.mem_cons, Prod.mk.injEq, List.not_mem_nil, or_false] at hmem
  revert hmem; simp
theorem row_is_count (X : K.In h) (G : h.Ns mainGlobals mg) (c : He.SaysD fa fn K) : ∃ (d : Mi.Df) (f : Addr) (name qual : Str) (params : Arguments) (body : List Stmt) (scope : Scope) (dV kV doc pm cdv ct oc : Value) (an od : Option Addr) (osl : Array (Option Value)) (N ps : List Str),
    K91.Ps[2]? = some d ∧ mg "is_count" = some (.ref f) ∧ PySem.W.keepIn K (.ref f) = true ∧ K.lookup f = some ⟨oc, od, .func (PySem.W.fnOf name qual params body scope dV kV doc pm an cdv ct), osl⟩ ∧ PySem.W.codeIn K cdv qual = true ∧ FnScope N ps scope ∧
    Binds K (PySem.W.fnOf name qual params body scope dV kV doc pm an cdv ct) ps [] ∧ ps.length = d.np ∧ N.length = d.np + d.nl ∧ Mi.mtB N K91.nm K91.fr K91.gl K91.kwt scope d.body body = true ∧
    ∀ np kn pm', (2, np, kn, pm') ∈ K91.kwt → ∀ (s : Shared) (us ws l : List Value), us.length = np → Mi.permL (us ++ ws) pm' = some l → l.length = ps.length → ws.length = kn.length → BindsTo s (PySem.W.fnOf name qual params body scope dV kV doc pm an cdv ct) ⟨us, kn.zip ws⟩ (ps.zip l) := by
  obtain ⟨fd, F⟩ := c.def_ 2 (d := dd 3) rfl
  have hm : mg "is_count" = some (.ref _) := He.glo_ok X G (c.fact 2 (f := .glo "is_count") rfl)
  refine Mi.def_row (N := K91.N_is_count) (ps := [("value" : Str)]) F hm rfl (by decide +kernel) (fun _ _ _ _ _ _ us hl => match us, hl with | [_], _ => rfl) ?_
  intro np kn pm' hmem
  simp only [K91.kwt, List.mem_cons, Prod.mk.injEq, List.not_mem_nil, or_false] at hmem
  revert hmem; simp
theorem row_is_position (X : K.In h) (G : h.Ns mainGlobals mg) (c : He.SaysD fa fn K) : ∃ (d : Mi.Df) (f : Addr) (name qual : Str) (params : Arguments) (body : List Stmt) (scope : Scope) (dV kV doc pm cdv ct oc : Value) (an od : Option Addr) (osl : Array (Option Value)) (N ps : List Str),
    K91.Ps[3]? = some d ∧ mg "is_position" = some (.ref f) ∧ PySem.W.keepIn K (.ref f) = true ∧ K.lookup f = some ⟨oc, od, .func (PySem.W.fnOf name qual params body scope dV kV doc pm an cdv ct), osl⟩ ∧ PySem.W.codeIn K cdv qual = true ∧ FnScope N ps scope ∧
    Binds K (PySem.W.fnOf name qual params body scope dV kV doc pm an cdv ct) ps [] ∧ ps.length = d.np ∧ N.length = d.np + d.nl ∧ Mi.mtB N K91.nm K91.fr K91.gl K91.kwt scope d.body body = true ∧
    ∀ np kn pm', (3, np, kn, pm') ∈ K91.kwt → ∀ (s : Shared) (us ws l : List Value), us.length = np → Mi.permL (us ++ ws) pm' = some l → l.length = ps.length → ws.length = kn.length → BindsTo s (PySem.W.fnOf name qual params body scope dV kV doc pm an cdv ct) ⟨us, kn.zip ws⟩ (ps.zip l) := by
  obtain ⟨fd, F⟩ := c.def_ 3 (d := dd 4) rfl
  have hm : mg "is_position" = some (.ref _) := He.glo_ok X G (c.fact 3 (f := .glo "is_position") rfl)
  refine Mi.def_row (N := K91.N_is_position) (ps := [("value" : Str), ("many" : Str)]) F hm rfl (by decide +kernel) (fun _ _ _ _ _ _ us hl => match us, hl with | [_, _], _ => rfl) ?_
  intro np kn pm' hmem
  simp only [K91.kwt, List.mem_cons, Prod.mk.injEq, List.not_mem_nil, or_false] at hmem
  revert hmem; simp
theorem row_pair_is_right (X : K.In h) (G : h.Ns mainGlobals mg) (c : He.SaysD fa fn K) : ∃ (d : Mi.Df) (f : Addr) (name qual : Str) (params : Arguments) (body : List Stmt) (scope : Scope) (dV kV doc pm cdv ct oc : Value) (an od : Option Addr) (osl : Array (Option Value)) (N ps : List Str),
    K91.Ps[4]? = some d ∧ mg "pair_is_right" = some (.ref f) ∧ PySem.W.keepIn K (.ref f) = true ∧ K.lookup f = some ⟨oc, od, .func (PySem.W.fnOf name qual params body scope dV kV doc pm an cdv ct), osl⟩ ∧ PySem.W.codeIn K cdv qual = true ∧ FnScope N ps scope ∧
    Binds K (PySem.W.fnOf name qual params body scope dV kV doc pm an cdv ct) ps [] ∧ ps.length = d.np ∧ N.length = d.np + d.nl ∧ Mi.mtB N K91.nm K91.fr K91.gl K91.kwt scope d.body body = true ∧
    ∀ np kn pm', (4, np, kn, pm') ∈ K91.kwt → ∀ (s : Shared) (us ws l : List Value), us.length = np → Mi.permL (us ++ ws) pm' = some l → l.length = ps.length → ws.length = kn.length → BindsTo s (PySem.W.fnOf name qual params body scope dV kV doc pm an cdv ct) ⟨us, kn.zip ws⟩ (ps.zip l) := by
  obtain ⟨fd, F⟩ := c.def_ 4 (d := dd 14) rfl
  have hm : mg "pair_is_right" = some (.ref _) := He.glo_ok X G (c.fact 4 (f := .glo "pair_is_right") rfl)
  refine Mi.def_row (N := K91.N_pair_is_right) (ps := [("value" : Str), ("most" : Str), ("with_none" : Str)]) F hm rfl (by decide +kernel) (fun _ _ _ _ _ _ us hl => match us, hl with | [_, _, _], _ => rfl) ?_
  intro np kn pm' hmem
  simp only [K91.kwt, List.mem_cons, Prod.mk.injEq, List.not_mem_nil, or_false] at hmem
  revert hmem; simp
theorem row_earth_is_right (X : K.In h) (G : h.Ns mainGlobals mg) (c : He.SaysD fa fn K) : ∃ (d : Mi.Df) (f : Addr) (name qual : Str) (params : Arguments) (body : List Stmt) (scope : Scope) (dV kV doc pm cdv ct oc : Value) (an od : Option Addr) (osl : Array (Option Value)) (N ps : List Str),
    K91.Ps[5]? = some d ∧ mg "earth_is_right" = some (.ref f) ∧ PySem.W.keepIn K (.ref f) = true ∧ K.lookup f = some ⟨oc, od, .func (PySem.W.fnOf name qual params body scope dV kV doc pm an cdv ct), osl⟩ ∧ PySem.W.codeIn K cdv qual = true ∧ FnScope N ps scope ∧
    Binds K (PySem.W.fnOf name qual params body scope dV kV doc pm an cdv ct) ps [] ∧ ps.length = d.np ∧ N.length = d.np + d.nl ∧ Mi.mtB N K91.nm K91.fr K91.gl K91.kwt scope d.body body = true ∧
    ∀ np kn pm', (5, np, kn, pm') ∈ K91.kwt → ∀ (s : Shared) (us ws l : List Value), us.length = np → Mi.permL (us ++ ws) pm' = some l → l.length = ps.length → ws.length = kn.length → BindsTo s (PySem.W.fnOf name qual params body scope dV kV doc pm an cdv ct) ⟨us, kn.zip ws⟩ (ps.zip l) := by
  obtain ⟨fd, F⟩ := c.def_ 5 (d := dd 15) rfl
  have hm : mg "earth_is_right" = some (.ref _) := He.glo_ok X G (c.fact 5 (f := .glo "earth_is_right") rfl)
  refine Mi.def_row (N := K91.N_earth_is_right) (ps := [("value" : Str)]) F hm rfl (by decide +kernel) (fun _ _ _ _ _ _ us hl => match us, hl with | [_], _ => rfl) ?_
  intro np kn pm' hmem
  simp only [K91.kwt, List.mem_cons, Prod.mk.injEq, List.not_mem_nil, or_false] at hmem
  revert hmem; simp
theorem row_is_row (X : K.In h) (G : h.Ns mainGlobals mg) (c : He.SaysD fa fn K) : ∃ (d : Mi.Df) (f : Addr) (name qual : Str) (params : Arguments) (body : List Stmt) (scope : Scope) (dV kV doc pm cdv ct oc : Value) (an od : Option Addr) (osl : Array (Option Value)) (N ps : List Str),
    K91.Ps[6]? = some d ∧ mg "is_row" = some (.ref f) ∧ PySem.W.keepIn K (.ref f) = true ∧ K.lookup f = some ⟨oc, od, .func (PySem.W.fnOf name qual params body scope dV kV doc pm an cdv ct), osl⟩ ∧ PySem.W.codeIn K cdv qual = true ∧ FnScope N ps scope ∧
    Binds K (PySem.W.fnOf name qual params body scope dV kV doc pm an cdv ct) ps [] ∧ ps.length = d.np ∧ N.length = d.np + d.nl ∧ Mi.mtB N K91.nm K91.fr K91.gl K91.kwt scope d.body body = true ∧
    ∀ np kn pm', (6, np, kn, pm') ∈ K91.kwt → ∀ (s : Shared) (us ws l : List Value), us.length = np → Mi.permL (us ++ ws) pm' = some l → l.length = ps.length → ws.length = kn.length → BindsTo s (PySem.W.fnOf name qual params body scope dV kV doc pm an cdv ct) ⟨us, kn.zip ws⟩ (ps.zip l) := by
  obtain ⟨fd, F⟩ := c.def_ 6 (d := dd 16) rfl
  have hm : mg "is_row" = some (.ref _) := He.glo_ok X G (c.fact 6 (f := .glo "is_row") rfl)
  refine Mi.def_row (N := K91.N_is_row) (ps := [("value" : Str), ("many" : Str)]) F hm rfl (by decide +kernel) (fun _ _ _ _ _ _ us hl => match us, hl with | [_, _], _ => rfl) ?_
  intro np kn pm' hmem
  simp only [K91.kwt, List.mem_cons, Prod.mk.injEq, List.not_mem_nil, or_false] at hmem
  revert hmem; simp
theorem row_tips_are_kept (X : K.In h) (G : h.Ns mainGlobals mg) (c : He.SaysD fa fn K) : ∃ (d : Mi.Df) (f : Addr) (name qual : Str) (params : Arguments) (body : List Stmt) (scope : Scope) (dV kV doc pm cdv ct oc : Value) (an od : Option Addr) (osl : Array (Option Value)) (N ps : List Str),
    K91.Ps[7]? = some d ∧ mg "tips_are_kept" = some (.ref f) ∧ PySem.W.keepIn K (.ref f) = true ∧ K.lookup f = some ⟨oc, od, .func (PySem.W.fnOf name qual params body scope dV kV doc pm an cdv ct), osl⟩ ∧ PySem.W.codeIn K cdv qual = true ∧ FnScope N ps scope ∧
    Binds K (PySem.W.fnOf name qual params body scope dV kV doc pm an cdv ct) ps [] ∧ ps.length = d.np ∧ N.length = d.np + d.nl ∧ Mi.mtB N K91.nm K91.fr K91.gl K91.kwt scope d.body body = true ∧
    ∀ np kn pm', (7, np, kn, pm') ∈ K91.kwt → ∀ (s : Shared) (us ws l : List Value), us.length = np → Mi.permL (us ++ ws) pm' = some l → l.length = ps.length → ws.length = kn.length → BindsTo s (PySem.W.fnOf name qual params body scope dV kV doc pm an cdv ct) ⟨us, kn.zip ws⟩ (ps.zip l) := by
  obtain ⟨fd, F⟩ := c.def_ 7 (d := dd 17) rfl
  have hm : mg "tips_are_kept" = some (.ref _) := He.glo_ok X G (c.fact 7 (f := .glo "tips_are_kept") rfl)
  refine Mi.def_row (N := K91.N_tips_are_kept) (ps := [("tips" : Str), ("numbers" : Str), ("at" : Str)]) F hm rfl (by decide +kernel) (fun _ _ _ _ _ _ us hl => match us, hl with | [_, _, _], _ => rfl) ?_
  intro np kn pm' hmem
  simp only [K91.kwt, List.mem_cons, Prod.mk.injEq, List.not_mem_nil, or_false] at hmem
  revert hmem; simp
theorem row_plan_is_right (X : K.In h) (G : h.Ns mainGlobals mg) (c : He.SaysD fa fn K) : ∃ (d : Mi.Df) (f : Addr) (name qual : Str) (params : Arguments) (body : List Stmt) (scope : Scope) (dV kV doc pm cdv ct oc : Value) (an od : Option Addr) (osl : Array (Option Value)) (N ps : List Str),
    K91.Ps[8]? = some d ∧ mg "plan_is_right" = some (.ref f) ∧ PySem.W.keepIn K (.ref f) = true ∧ K.lookup f = some ⟨oc, od, .func (PySem.W.fnOf name qual params body scope dV kV doc pm an cdv ct), osl⟩ ∧ PySem.W.codeIn K cdv qual = true ∧ FnScope N ps scope ∧
    Binds K (PySem.W.fnOf name qual params body scope dV kV doc pm an cdv ct) ps [] ∧ ps.length = d.np ∧ N.length = d.np + d.nl ∧ Mi.mtB N K91.nm K91.fr K91.gl K91.kwt scope d.body body = true ∧
    ∀ np kn pm', (8, np, kn, pm') ∈ K91.kwt → ∀ (s : Shared) (us ws l : List Value), us.length = np → Mi.permL (us ++ ws) pm' = some l → l.length = ps.length → ws.length = kn.length → BindsTo s (PySem.W.fnOf name qual params body scope dV kV doc pm an cdv ct) ⟨us, kn.zip ws⟩ (ps.zip l) := by
  obtain ⟨fd, F⟩ := c.def_ 8 (d := dd 18) rfl
  have hm : mg "plan_is_right" = some (.ref _) := He.glo_ok X G (c.fact 8 (f := .glo "plan_is_right") rfl)
  refine Mi.def_row (N := K91.N_plan_is_right) (ps := [("earth" : Str), ("value" : Str)]) F hm rfl (by decide +kernel) (fun _ _ _ _ _ _ us hl => match us, hl with | [_, _], _ => rfl) ?_
  intro np kn pm' hmem
  simp only [K91.kwt, List.mem_cons, Prod.mk.injEq, List.not_mem_nil, or_false] at hmem
  revert hmem; simp
theorem row_check_earth (X : K.In h) (G : h.Ns mainGlobals mg) (c : He.SaysD fa fn K) : ∃ (d : Mi.Df) (f : Addr) (name qual : Str) (params : Arguments) (body : List Stmt) (scope : Scope) (dV kV doc pm cdv ct oc : Value) (an od : Option Addr) (osl : Array (Option Value)) (N ps : List Str),
    K91.Ps[9]? = some d ∧ mg "check_earth" = some (.ref f) ∧ PySem.W.keepIn K (.ref f) = true ∧ K.lookup f = some ⟨oc, od, .func (PySem.W.fnOf name qual params body scope dV kV doc pm an cdv ct), osl⟩ ∧ PySem.W.codeIn K cdv qual = true ∧ FnScope N ps scope ∧
    Binds K (PySem.W.fnOf name qual params body scope dV kV doc pm an cdv ct) ps [] ∧ ps.length = d.np ∧ N.length = d.np + d.nl ∧ Mi.mtB N K91.nm K91.fr K91.gl K91.kwt scope d.body body = true ∧
    ∀ np kn pm', (9, np, kn, pm') ∈ K91.kwt → ∀ (s : Shared) (us ws l : List Value), us.length = np → Mi.permL (us ++ ws) pm' = some l → l.length = ps.length → ws.length = kn.length → BindsTo s (PySem.W.fnOf name qual params body scope dV kV doc pm an cdv ct) ⟨us, kn.zip ws⟩ (ps.zip l) := by
  obtain ⟨fd, F⟩ := c.def_ 9 (d := dd 19) rfl
  have hm : mg "check_earth" = some (.ref _) := He.glo_ok X G (c.fact 9 (f := .glo "check_earth") rfl)
  refine Mi.def_row (N := K91.N_check_earth) (ps := [("earth" : Str)]) F hm rfl (by decide +kernel) (fun _ _ _ _ _ _ us hl => match us, hl with | [_], _ => rfl) ?_
  intro np kn pm' hmem
  simp only [K91.kwt, List.mem_cons, Prod.mk.injEq, List.not_mem_nil, or_false] at hmem
  revert hmem; simp
theorem row_check_plan (X : K.In h) (G : h.Ns mainGlobals mg) (c : He.SaysD fa fn K) : ∃ (d : Mi.Df) (f : Addr) (name qual : Str) (params : Arguments) (body : List Stmt) (scope : Scope) (dV kV doc pm cdv ct oc : Value) (an od : Option Addr) (osl : Array (Option Value)) (N ps : List Str),
    K91.Ps[10]? = some d ∧ mg "check_plan" = some (.ref f) ∧ PySem.W.keepIn K (.ref f) = true ∧ K.lookup f = some ⟨oc, od, .func (PySem.W.fnOf name qual params body scope dV kV doc pm an cdv ct), osl⟩ ∧ PySem.W.codeIn K cdv qual = true ∧ FnScope N ps scope ∧
    Binds K (PySem.W.fnOf name qual params body scope dV kV doc pm an cdv ct) ps [] ∧ ps.length = d.np ∧ N.length = d.np + d.nl ∧ Mi.mtB N K91.nm K91.fr K91.gl K91.kwt scope d.body body = true ∧
    ∀ np kn pm', (10, np, kn, pm') ∈ K91.kwt → ∀ (s : Shared) (us ws l : List Value), us.length = np → Mi.permL (us ++ ws) pm' = some l → l.length = ps.length → ws.length = kn.length → BindsTo s (PySem.W.fnOf name qual params body scope dV kV doc pm an cdv ct) ⟨us, kn.zip ws⟩ (ps.zip l) := by
  obtain ⟨fd, F⟩ := c.def_ 10 (d := dd 20) rfl
  have hm : mg "check_plan" = some (.ref _) := He.glo_ok X G (c.fact 10 (f := .glo "check_plan") rfl)
  refine Mi.def_row (N := K91.N_check_plan) (ps := [("earth" : Str), ("plan" : Str)]) F hm rfl (by decide +kernel) (fun _ _ _ _ _ _ us hl => match us, hl with | [_, _], _ => rfl) ?_
  intro np kn pm' hmem
  simp only [K91.kwt, List.mem_cons, Prod.mk.injEq, List.not_mem_nil, or_false] at hmem
  revert hmem; simp
theorem row_cost_of (X : K.In h) (G : h.Ns mainGlobals mg) (c : He.SaysD fa fn K) : ∃ (d : Mi.Df) (f : Addr) (name qual : Str) (params : Arguments) (body : List Stmt) (scope : Scope) (dV kV doc pm cdv ct oc : Value) (an od : Option Addr) (osl : Array (Option Value)) (N ps : List Str),
    K91.Ps[11]? = some d ∧ mg "cost_of" = some (.ref f) ∧ PySem.W.keepIn K (.ref f) = true ∧ K.lookup f = some ⟨oc, od, .func (PySem.W.fnOf name qual params body scope dV kV doc pm an cdv ct), osl⟩ ∧ PySem.W.codeIn K cdv qual = true ∧ FnScope N ps scope ∧
    Binds K (PySem.W.fnOf name qual params body scope dV kV doc pm an cdv ct) ps [] ∧ ps.length = d.np ∧ N.length = d.np + d.nl ∧ Mi.mtB N K91.nm K91.fr K91.gl K91.kwt scope d.body body = true ∧
    ∀ np kn pm', (11, np, kn, pm') ∈ K91.kwt → ∀ (s : Shared) (us ws l : List Value), us.length = np → Mi.permL (us ++ ws) pm' = some l → l.length = ps.length → ws.length = kn.length → BindsTo s (PySem.W.fnOf name qual params body scope dV kV doc pm an cdv ct) ⟨us, kn.zip ws⟩ (ps.zip l) := by
  obtain ⟨fd, F⟩ := c.def_ 11 (d := dd 21) rfl
  have hm : mg "cost_of" = some (.ref _) := He.glo_ok X G (c.fact 11 (f := .glo "cost_of") rfl)
  refine Mi.def_row (N := K91.N_cost_of) (ps := [("earth" : Str), ("plan" : Str)]) F hm rfl (by decide +kernel) (fun _ _ _ _ _ _ us hl => match us, hl with | [_, _], _ => rfl) ?_
  intro np kn pm' hmem
  simp only [K91.kwt, List.mem_cons, Prod.mk.injEq, List.not_mem_nil, or_false] at hmem
  revert hmem; simp
theorem row_gives_and_takes (X : K.In h) (G : h.Ns mainGlobals mg) (c : He.SaysD fa fn K) : ∃ (d : Mi.Df) (f : Addr) (name qual : Str) (params : Arguments) (body : List Stmt) (scope : Scope) (dV kV doc pm cdv ct oc : Value) (an od : Option Addr) (osl : Array (Option Value)) (N ps : List Str),
    K91.Ps[12]? = some d ∧ mg "gives_and_takes" = some (.ref f) ∧ PySem.W.keepIn K (.ref f) = true ∧ K.lookup f = some ⟨oc, od, .func (PySem.W.fnOf name qual params body scope dV kV doc pm an cdv ct), osl⟩ ∧ PySem.W.codeIn K cdv qual = true ∧ FnScope N ps scope ∧
    Binds K (PySem.W.fnOf name qual params body scope dV kV doc pm an cdv ct) ps [] ∧ ps.length = d.np ∧ N.length = d.np + d.nl ∧ Mi.mtB N K91.nm K91.fr K91.gl K91.kwt scope d.body body = true ∧
    ∀ np kn pm', (12, np, kn, pm') ∈ K91.kwt → ∀ (s : Shared) (us ws l : List Value), us.length = np → Mi.permL (us ++ ws) pm' = some l → l.length = ps.length → ws.length = kn.length → BindsTo s (PySem.W.fnOf name qual params body scope dV kV doc pm an cdv ct) ⟨us, kn.zip ws⟩ (ps.zip l) := by
  obtain ⟨fd, F⟩ := c.def_ 12 (d := dd 22) rfl
  have hm : mg "gives_and_takes" = some (.ref _) := He.glo_ok X G (c.fact 12 (f := .glo "gives_and_takes") rfl)
  refine Mi.def_row (N := K91.N_gives_and_takes) (ps := [("earth" : Str), ("plan" : Str)]) F hm rfl (by decide +kernel) (fun _ _ _ _ _ _ us hl => match us, hl with | [_, _], _ => rfl) ?_
  intro np kn pm' hmem
  simp only [K91.kwt, List.mem_cons, Prod.mk.injEq, List.not_mem_nil, or_false] at hmem
  revert hmem; simp
theorem row_table_of (X : K.In h) (G : h.Ns mainGlobals mg) (c : He.SaysD fa fn K) : ∃ (d : Mi.Df) (f : Addr) (name qual : Str) (params : Arguments) (body : List Stmt) (scope : Scope) (dV kV doc pm cdv ct oc : Value) (an od : Option Addr) (osl : Array (Option Value)) (N ps : List Str),
    K91.Ps[13]? = some d ∧ mg "table_of" = some (.ref f) ∧ PySem.W.keepIn K (.ref f) = true ∧ K.lookup f = some ⟨oc, od, .func (PySem.W.fnOf name qual params body scope dV kV doc pm an cdv ct), osl⟩ ∧ PySem.W.codeIn K cdv qual = true ∧ FnScope N ps scope ∧
    Binds K (PySem.W.fnOf name qual params body scope dV kV doc pm an cdv ct) ps [] ∧ ps.length = d.np ∧ N.length = d.np + d.nl ∧ Mi.mtB N K91.nm K91.fr K91.gl K91.kwt scope d.body body = true ∧
    ∀ np kn pm', (13, np, kn, pm') ∈ K91.kwt → ∀ (s : Shared) (us ws l : List Value), us.length = np → Mi.permL (us ++ ws) pm' = some l → l.length = ps.length → ws.length = kn.length → BindsTo s (PySem.W.fnOf name qual params body scope dV kV doc pm an cdv ct) ⟨us, kn.zip ws⟩ (ps.zip l) := by
  obtain ⟨fd, F⟩ := c.def_ 13 (d := dd 23) rfl
  have hm : mg "table_of" = some (.ref _) := He.glo_ok X G (c.fact 13 (f := .glo "table_of") rfl)
  refine Mi.def_row (N := K91.N_table_of) (ps := [("earth" : Str), ("plan" : Str)]) F hm rfl (by decide +kernel) (fun _ _ _ _ _ _ us hl => match us, hl with | [_, _], _ => rfl) ?_
  intro np kn pm' hmem
  simp only [K91.kwt, List.mem_cons, Prod.mk.injEq, List.not_mem_nil, or_false] at hmem
  revert hmem; simp
theorem row_entry_is_right (X : K.In h) (G : h.Ns mainGlobals mg) (c : He.SaysD fa fn K) : ∃ (d : Mi.Df) (f : Addr) (name qual : Str) (params : Arguments) (body : List Stmt) (scope : Scope) (dV kV doc pm cdv ct oc : Value) (an od : Option Addr) (osl : Array (Option Value)) (N ps : List Str),
    K91.Ps[14]? = some d ∧ mg "entry_is_right" = some (.ref f) ∧ PySem.W.keepIn K (.ref f) = true ∧ K.lookup f = some ⟨oc, od, .func (PySem.W.fnOf name qual params body scope dV kV doc pm an cdv ct), osl⟩ ∧ PySem.W.codeIn K cdv qual = true ∧ FnScope N ps scope ∧
    Binds K (PySem.W.fnOf name qual params body scope dV kV doc pm an cdv ct) ps [] ∧ ps.length = d.np ∧ N.length = d.np + d.nl ∧ Mi.mtB N K91.nm K91.fr K91.gl K91.kwt scope d.body body = true ∧
    ∀ np kn pm', (14, np, kn, pm') ∈ K91.kwt → ∀ (s : Shared) (us ws l : List Value), us.length = np → Mi.permL (us ++ ws) pm' = some l → l.length = ps.length → ws.length = kn.length → BindsTo s (PySem.W.fnOf name qual params body scope dV kV doc pm an cdv ct) ⟨us, kn.zip ws⟩ (ps.zip l) := by
  obtain ⟨fd, F⟩ := c.def_ 14 (d := dd 24) rfl
  have hm : mg "entry_is_right" = some (.ref _) := He.glo_ok X G (c.fact 14 (f := .glo "entry_is_right") rfl)
  refine Mi.def_row (N := K91.N_entry_is_right) (ps := [("value" : Str), ("many" : Str)]) F hm rfl (by decide +kernel) (fun _ _ _ _ _ _ us hl => match us, hl with | [_, _], _ => rfl) ?_
  intro np kn pm' hmem
  simp only [K91.kwt, List.mem_cons, Prod.mk.injEq, List.not_mem_nil, or_false] at hmem
  revert hmem; simp
theorem row_table_is_right (X : K.In h) (G : h.Ns mainGlobals mg) (c : He.SaysD fa fn K) : ∃ (d : Mi.Df) (f : Addr) (name qual : Str) (params : Arguments) (body : List Stmt) (scope : Scope) (dV kV doc pm cdv ct oc : Value) (an od : Option Addr) (osl : Array (Option Value)) (N ps : List Str),
    K91.Ps[15]? = some d ∧ mg "table_is_right" = some (.ref f) ∧ PySem.W.keepIn K (.ref f) = true ∧ K.lookup f = some ⟨oc, od, .func (PySem.W.fnOf name qual params body scope dV kV doc pm an cdv ct), osl⟩ ∧ PySem.W.codeIn K cdv qual = true ∧ FnScope N ps scope ∧
    Binds K (PySem.W.fnOf name qual params body scope dV kV doc pm an cdv ct) ps [] ∧ ps.length = d.np ∧ N.length = d.np + d.nl ∧ Mi.mtB N K91.nm K91.fr K91.gl K91.kwt scope d.body body = true ∧
    ∀ np kn pm', (15, np, kn, pm') ∈ K91.kwt → ∀ (s : Shared) (us ws l : List Value), us.length = np → Mi.permL (us ++ ws) pm' = some l → l.length = ps.length → ws.length = kn.length → BindsTo s (PySem.W.fnOf name qual params body scope dV kV doc pm an cdv ct) ⟨us, kn.zip ws⟩ (ps.zip l) := by
  obtain ⟨fd, F⟩ := c.def_ 15 (d := dd 25) rfl
  have hm : mg "table_is_right" = some (.ref _) := He.glo_ok X G (c.fact 15 (f := .glo "table_is_right") rfl)
  refine Mi.def_row (N := K91.N_table_is_right) (ps := [("earth" : Str), ("plan" : Str), ("value" : Str)]) F hm rfl (by decide +kernel) (fun _ _ _ _ _ _ us hl => match us, hl with | [_, _, _], _ => rfl) ?_
  intro np kn pm' hmem
  simp only [K91.kwt, List.mem_cons, Prod.mk.injEq, List.not_mem_nil, or_false] at hmem
  revert hmem; simp
theorem row_way_of (X : K.In h) (G : h.Ns mainGlobals mg) (c : He.SaysD fa fn K) : ∃ (d : Mi.Df) (f : Addr) (name qual : Str) (params : Arguments) (body : List Stmt) (scope : Scope) (dV kV doc pm cdv ct oc : Value) (an od : Option Addr) (osl : Array (Option Value)) (N ps : List Str),
    K91.Ps[16]? = some d ∧ mg "way_of" = some (.ref f) ∧ PySem.W.keepIn K (.ref f) = true ∧ K.lookup f = some ⟨oc, od, .func (PySem.W.fnOf name qual params body scope dV kV doc pm an cdv ct), osl⟩ ∧ PySem.W.codeIn K cdv qual = true ∧ FnScope N ps scope ∧
    Binds K (PySem.W.fnOf name qual params body scope dV kV doc pm an cdv ct) ps [] ∧ ps.length = d.np ∧ N.length = d.np + d.nl ∧ Mi.mtB N K91.nm K91.fr K91.gl K91.kwt scope d.body body = true ∧
    ∀ np kn pm', (16, np, kn, pm') ∈ K91.kwt → ∀ (s : Shared) (us ws l : List Value), us.length = np → Mi.permL (us ++ ws) pm' = some l → l.length = ps.length → ws.length = kn.length → BindsTo s (PySem.W.fnOf name qual params body scope dV kV doc pm an cdv ct) ⟨us, kn.zip ws⟩ (ps.zip l) := by
  obtain ⟨fd, F⟩ := c.def_ 16 (d := dd 26) rfl
  have hm : mg "way_of" = some (.ref _) := He.glo_ok X G (c.fact 16 (f := .glo "way_of") rfl)
  refine Mi.def_row (N := K91.N_way_of) (ps := [("earth" : Str), ("one" : Str), ("other" : Str)]) F hm rfl (by decide +kernel) (fun _ _ _ _ _ _ us hl => match us, hl with | [_, _, _], _ => rfl) ?_
  intro np kn pm' hmem
  simp only [K91.kwt, List.mem_cons, Prod.mk.injEq, List.not_mem_nil, or_false] at hmem
  revert hmem; simp
theorem row_line_of (X : K.In h) (G : h.Ns mainGlobals mg) (c : He.SaysD fa fn K) : ∃ (d : Mi.Df) (f : Addr) (name qual : Str) (params : Arguments) (body : List Stmt) (scope : Scope) (dV kV doc pm cdv ct oc : Value) (an od : Option Addr) (osl : Array (Option Value)) (N ps : List Str),
    K91.Ps[17]? = some d ∧ mg "line_of" = some (.ref f) ∧ PySem.W.keepIn K (.ref f) = true ∧ K.lookup f = some ⟨oc, od, .func (PySem.W.fnOf name qual params body scope dV kV doc pm an cdv ct), osl⟩ ∧ PySem.W.codeIn K cdv qual = true ∧ FnScope N ps scope ∧
    Binds K (PySem.W.fnOf name qual params body scope dV kV doc pm an cdv ct) ps [] ∧ ps.length = d.np ∧ N.length = d.np + d.nl ∧ Mi.mtB N K91.nm K91.fr K91.gl K91.kwt scope d.body body = true ∧
    ∀ np kn pm', (17, np, kn, pm') ∈ K91.kwt → ∀ (s : Shared) (us ws l : List Value), us.length = np → Mi.permL (us ++ ws) pm' = some l → l.length = ps.length → ws.length = kn.length → BindsTo s (PySem.W.fnOf name qual params body scope dV kV doc pm an cdv ct) ⟨us, kn.zip ws⟩ (ps.zip l) := by
  obtain ⟨fd, F⟩ := c.def_ 17 (d := dd 27) rfl
  have hm : mg "line_of" = some (.ref _) := He.glo_ok X G (c.fact 17 (f := .glo "line_of") rfl)
  refine Mi.def_row (N := K91.N_line_of) (ps := [("earth" : Str)]) F hm rfl (by decide +kernel) (fun _ _ _ _ _ _ us hl => match us, hl with | [_], _ => rfl) ?_
  intro np kn pm' hmem
  simp only [K91.kwt, List.mem_cons, Prod.mk.injEq, List.not_mem_nil, or_false] at hmem
  revert hmem; simp
theorem row_shifted_cost (X : K.In h) (G : h.Ns mainGlobals mg) (c : He.SaysD fa fn K) : ∃ (d : Mi.Df) (f : Addr) (name qual : Str) (params : Arguments) (body : List Stmt) (scope : Scope) (dV kV doc pm cdv ct oc : Value) (an od : Option Addr) (osl : Array (Option Value)) (N ps : List Str),
    K91.Ps[18]? = some d ∧ mg "shifted_cost" = some (.ref f) ∧ PySem.W.keepIn K (.ref f) = true ∧ K.lookup f = some ⟨oc, od, .func (PySem.W.fnOf name qual params body scope dV kV doc pm an cdv ct), osl⟩ ∧ PySem.W.codeIn K cdv qual = true ∧ FnScope N ps scope ∧
    Binds K (PySem.W.fnOf name qual params body scope dV kV doc pm an cdv ct) ps [] ∧ ps.length = d.np ∧ N.length = d.np + d.nl ∧ Mi.mtB N K91.nm K91.fr K91.gl K91.kwt scope d.body body = true ∧
    ∀ np kn pm', (18, np, kn, pm') ∈ K91.kwt → ∀ (s : Shared) (us ws l : List Value), us.length = np → Mi.permL (us ++ ws) pm' = some l → l.length = ps.length → ws.length = kn.length → BindsTo s (PySem.W.fnOf name qual params body scope dV kV doc pm an cdv ct) ⟨us, kn.zip ws⟩ (ps.zip l) := by
  obtain ⟨fd, F⟩ := c.def_ 18 (d := dd 28) rfl
  have hm : mg "shifted_cost" = some (.ref _) := He.glo_ok X G (c.fact 18 (f := .glo "shifted_cost") rfl)
  refine Mi.def_row (N := K91.N_shifted_cost) (ps := [("earth" : Str), ("number" : Str)]) F hm rfl (by decide +kernel) (fun _ _ _ _ _ _ us hl => match us, hl with | [_, _], _ => rfl) ?_
  intro np kn pm' hmem
  simp only [K91.kwt, List.mem_cons, Prod.mk.injEq, List.not_mem_nil, or_false] at hmem
  revert hmem; simp
theorem row_cost (X : K.In h) (G : h.Ns mainGlobals mg) (c : He.SaysD fa fn K) : ∃ (d : Mi.Df) (f : Addr) (name qual : Str) (params : Arguments) (body : List Stmt) (scope : Scope) (dV kV doc pm cdv ct oc : Value) (an od : Option Addr) (osl : Array (Option Value)) (N ps : List Str),
    K91.Ps[19]? = some d ∧ mg "cost" = some (.ref f) ∧ PySem.W.keepIn K (.ref f) = true ∧ K.lookup f = some ⟨oc, od, .func (PySem.W.fnOf name qual params body scope dV kV doc pm an cdv ct), osl⟩ ∧ PySem.W.codeIn K cdv qual = true ∧ FnScope N ps scope ∧
    Binds K (PySem.W.fnOf name qual params body scope dV kV doc pm an cdv ct) ps [] ∧ ps.length = d.np ∧ N.length = d.np + d.nl ∧ Mi.mtB N K91.nm K91.fr K91.gl K91.kwt scope d.body body = true ∧
    ∀ np kn pm', (19, np, kn, pm') ∈ K91.kwt → ∀ (s : Shared) (us ws l : List Value), us.length = np → Mi.permL (us ++ ws) pm' = some l → l.length = ps.length → ws.length = kn.length → BindsTo s (PySem.W.fnOf name qual params body scope dV kV doc pm an cdv ct) ⟨us, kn.zip ws⟩ (ps.zip l) := by
  obtain ⟨fd, F⟩ := c.def_ 19 (d := dd 29) rfl
  have hm : mg "cost" = some (.ref _) := He.glo_ok X G (c.fact 19 (f := .glo "cost") rfl)
  refine Mi.def_row (N := K91.N_cost) (ps := [("earth" : Str), ("plan" : Str)]) F hm rfl (by decide +kernel) (fun _ _ _ _ _ _ us hl => match us, hl with | [_, _], _ => rfl) ?_
  intro np kn pm' hmem
  simp only [K91.kwt, List.mem_cons, Prod.mk.injEq, List.not_mem_nil, or_false] at hmem
  revert hmem; simp
theorem row_table (X : K.In h) (G : h.Ns mainGlobals mg) (c : He.SaysD fa fn K) : ∃ (d : Mi.Df) (f : Addr) (name qual : Str) (params : Arguments) (body : List Stmt) (scope : Scope) (dV kV doc pm cdv ct oc : Value) (an od : Option Addr) (osl : Array (Option Value)) (N ps : List Str),
    K91.Ps[20]? = some d ∧ mg "table" = some (.ref f) ∧ PySem.W.keepIn K (.ref f) = true ∧ K.lookup f = some ⟨oc, od, .func (PySem.W.fnOf name qual params body scope dV kV doc pm an cdv ct), osl⟩ ∧ PySem.W.codeIn K cdv qual = true ∧ FnScope N ps scope ∧
    Binds K (PySem.W.fnOf name qual params body scope dV kV doc pm an cdv ct) ps [] ∧ ps.length = d.np ∧ N.length = d.np + d.nl ∧ Mi.mtB N K91.nm K91.fr K91.gl K91.kwt scope d.body body = true ∧
    ∀ np kn pm', (20, np, kn, pm') ∈ K91.kwt → ∀ (s : Shared) (us ws l : List Value), us.length = np → Mi.permL (us ++ ws) pm' = some l → l.length = ps.length → ws.length = kn.length → BindsTo s (PySem.W.fnOf name qual params body scope dV kV doc pm an cdv ct) ⟨us, kn.zip ws⟩ (ps.zip l) := by
  obtain ⟨fd, F⟩ := c.def_ 20 (d := dd 30) rfl
  have hm : mg "table" = some (.ref _) := He.glo_ok X G (c.fact 20 (f := .glo "table") rfl)
  refine Mi.def_row (N := K91.N_table) (ps := [("earth" : Str), ("plan" : Str)]) F hm rfl (by decide +kernel) (fun _ _ _ _ _ _ us hl => match us, hl with | [_, _], _ => rfl) ?_
  intro np kn pm' hmem
  simp only [K91.kwt, List.mem_cons, Prod.mk.injEq, List.not_mem_nil, or_false] at hmem
  have hmem2 : (np = 0 ∧ kn = [("plan" : Str), ("earth" : Str)] ∧ pm' = [1, 0]) := by revert hmem; simp
  clear hmem
  obtain ⟨rfl, rfl, rfl⟩ := hmem2
  intro kV doc pm an cdv ct us ws l h1 h2 h3 h4
  match us, ws, h1, h4 with
  | [], [w0, w1], _, _ =>
    have e : l = [w1, w0] := by
      simpa [Mi.permL] using h2.symm
    subst e
    rfl
theorem row_is_table (X : K.In h) (G : h.Ns mainGlobals mg) (c : He.SaysD fa fn K) : ∃ (d : Mi.Df) (f : Addr) (name qual : Str) (params : Arguments) (body : List Stmt) (scope : Scope) (dV kV doc pm cdv ct oc : Value) (an od : Option Addr) (osl : Array (Option Value)) (N ps : List Str),
    K91.Ps[21]? = some d ∧ mg "is_table" = some (.ref f) ∧ PySem.W.keepIn K (.ref f) = true ∧ K.lookup f = some ⟨oc, od, .func (PySem.W.fnOf name qual params body scope dV kV doc pm an cdv ct), osl⟩ ∧ PySem.W.codeIn K cdv qual = true ∧ FnScope N ps scope ∧
    Binds K (PySem.W.fnOf name qual params body scope dV kV doc pm an cdv ct) ps [] ∧ ps.length = d.np ∧ N.length = d.np + d.nl ∧ Mi.mtB N K91.nm K91.fr K91.gl K91.kwt scope d.body body = true ∧
    ∀ np kn pm', (21, np, kn, pm') ∈ K91.kwt → ∀ (s : Shared) (us ws l : List Value), us.length = np → Mi.permL (us ++ ws) pm' = some l → l.length = ps.length → ws.length = kn.length → BindsTo s (PySem.W.fnOf name qual params body scope dV kV doc pm an cdv ct) ⟨us, kn.zip ws⟩ (ps.zip l) := by
  obtain ⟨fd, F⟩ := c.def_ 21 (d := dd 31) rfl
  have hm : mg "is_table" = some (.ref _) := He.glo_ok X G (c.fact 21 (f := .glo "is_table") rfl)
  refine Mi.def_row (N := K91.N_is_table) (ps := [("earth" : Str), ("plan" : Str), ("value" : Str)]) F hm rfl (by decide +kernel) (fun _ _ _ _ _ _ us hl => match us, hl with | [_, _, _], _ => rfl) ?_
  intro np kn pm' hmem
  simp only [K91.kwt, List.mem_cons, Prod.mk.injEq, List.not_mem_nil, or_false] at hmem
  have hmem2 : (np = 0 ∧ kn = [("value" : Str), ("plan" : Str), ("earth" : Str)] ∧ pm' = [2, 1, 0]) := by revert hmem; simp
  clear hmem
  obtain ⟨rfl, rfl, rfl⟩ := hmem2
  intro kV doc pm an cdv ct us ws l h1 h2 h3 h4
  match us, ws, h1, h4 with
  | [], [w0, w1, w2], _, _ =>
    have e : l = [w2, w1, w0] := by
      simpa [Mi.permL] using h2.symm
    subst e
    rfl
theorem row_table_cost (X : K.In h) (G : h.Ns mainGlobals mg) (c : He.SaysD fa fn K) : ∃ (d : Mi.Df) (f : Addr) (name qual : Str) (params : Arguments) (body : List Stmt) (scope : Scope) (dV kV doc pm cdv ct oc : Value) (an od : Option Addr) (osl : Array (Option Value)) (N ps : List Str),
    K91.Ps[22]? = some d ∧ mg "table_cost" = some (.ref f) ∧ PySem.W.keepIn K (.ref f) = true ∧ K.lookup f = some ⟨oc, od, .func (PySem.W.fnOf name qual params body scope dV kV doc pm an cdv ct), osl⟩ ∧ PySem.W.codeIn K cdv qual = true ∧ FnScope N ps scope ∧
    Binds K (PySem.W.fnOf name qual params body scope dV kV doc pm an cdv ct) ps [] ∧ ps.length = d.np ∧ N.length = d.np + d.nl ∧ Mi.mtB N K91.nm K91.fr K91.gl K91.kwt scope d.body body = true ∧
    ∀ np kn pm', (22, np, kn, pm') ∈ K91.kwt → ∀ (s : Shared) (us ws l : List Value), us.length = np → Mi.permL (us ++ ws) pm' = some l → l.length = ps.length → ws.length = kn.length → BindsTo s (PySem.W.fnOf name qual params body scope dV kV doc pm an cdv ct) ⟨us, kn.zip ws⟩ (ps.zip l) := by
  obtain ⟨fd, F⟩ := c.def_ 22 (d := dd 32) rfl
  have hm : mg "table_cost" = some (.ref _) := He.glo_ok X G (c.fact 22 (f := .glo "table_cost") rfl)
  refine Mi.def_row (N := K91.N_table_cost) (ps := [("earth" : Str), ("plan" : Str), ("value" : Str)]) F hm rfl (by decide +kernel) (fun _ _ _ _ _ _ us hl => match us, hl with | [_, _, _], _ => rfl) ?_
  intro np kn pm' hmem
  simp only [K91.kwt, List.mem_cons, Prod.mk.injEq, List.not_mem_nil, or_false] at hmem
  have hmem2 : (np = 0 ∧ kn = [("value" : Str), ("plan" : Str), ("earth" : Str)] ∧ pm' = [2, 1, 0]) := by revert hmem; simp
  clear hmem
  obtain ⟨rfl, rfl, rfl⟩ := hmem2
  intro kV doc pm an cdv ct us ws l h1 h2 h3 h4
  match us, ws, h1, h4 with
  | [], [w0, w1, w2], _, _ =>
    have e : l = [w2, w1, w0] := by
      simpa [Mi.permL] using h2.symm
    subst e
    rfl
theorem row_line (X : K.In h) (G : h.Ns mainGlobals mg) (c : He.SaysD fa fn K) : ∃ (d : Mi.Df) (f : Addr) (name qual : Str) (params : Arguments) (body : List Stmt) (scope : Scope) (dV kV doc pm cdv ct oc : Value) (an od : Option Addr) (osl : Array (Option Value)) (N ps : List Str),
    K91.Ps[23]? = some d ∧ mg "line" = some (.ref f) ∧ PySem.W.keepIn K (.ref f) = true ∧ K.lookup f = some ⟨oc, od, .func (PySem.W.fnOf name qual params body scope dV kV doc pm an cdv ct), osl⟩ ∧ PySem.W.codeIn K cdv qual = true ∧ FnScope N ps scope ∧
    Binds K (PySem.W.fnOf name qual params body scope dV kV doc pm an cdv ct) ps [] ∧ ps.length = d.np ∧ N.length = d.np + d.nl ∧ Mi.mtB N K91.nm K91.fr K91.gl K91.kwt scope d.body body = true ∧
    ∀ np kn pm', (23, np, kn, pm') ∈ K91.kwt → ∀ (s : Shared) (us ws l : List Value), us.length = np → Mi.permL (us ++ ws) pm' = some l → l.length = ps.length → ws.length = kn.length → BindsTo s (PySem.W.fnOf name qual params body scope dV kV doc pm an cdv ct) ⟨us, kn.zip ws⟩ (ps.zip l) := by
  obtain ⟨fd, F⟩ := c.def_ 23 (d := dd 33) rfl
  have hm : mg "line" = some (.ref _) := He.glo_ok X G (c.fact 23 (f := .glo "line") rfl)
  refine Mi.def_row (N := K91.N_line) (ps := [("earth" : Str)]) F hm rfl (by decide +kernel) (fun _ _ _ _ _ _ us hl => match us, hl with | [_], _ => rfl) ?_
  intro np kn pm' hmem
  simp only [K91.kwt, List.mem_cons, Prod.mk.injEq, List.not_mem_nil, or_false] at hmem
  have hmem2 : (np = 0 ∧ kn = [("earth" : Str)] ∧ pm' = [0]) := by revert hmem; simp
  clear hmem
  obtain ⟨rfl, rfl, rfl⟩ := hmem2
  intro kV doc pm an cdv ct us ws l h1 h2 h3 h4
  match us, ws, h1, h4 with
  | [], [w0], _, _ =>
    have e : l = [w0] := by
      simpa [Mi.permL] using h2.symm
    subst e
    rfl
theorem row_balance (X : K.In h) (G : h.Ns mainGlobals mg) (c : He.SaysD fa fn K) : ∃ (d : Mi.Df) (f : Addr) (name qual : Str) (params : Arguments) (body : List Stmt) (scope : Scope) (dV kV doc pm cdv ct oc : Value) (an od : Option Addr) (osl : Array (Option Value)) (N ps : List Str),
    K91.Ps[24]? = some d ∧ mg "balance" = some (.ref f) ∧ PySem.W.keepIn K (.ref f) = true ∧ K.lookup f = some ⟨oc, od, .func (PySem.W.fnOf name qual params body scope dV kV doc pm an cdv ct), osl⟩ ∧ PySem.W.codeIn K cdv qual = true ∧ FnScope N ps scope ∧
    Binds K (PySem.W.fnOf name qual params body scope dV kV doc pm an cdv ct) ps [] ∧ ps.length = d.np ∧ N.length = d.np + d.nl ∧ Mi.mtB N K91.nm K91.fr K91.gl K91.kwt scope d.body body = true ∧
    ∀ np kn pm', (24, np, kn, pm') ∈ K91.kwt → ∀ (s : Shared) (us ws l : List Value), us.length = np → Mi.permL (us ++ ws) pm' = some l → l.length = ps.length → ws.length = kn.length → BindsTo s (PySem.W.fnOf name qual params body scope dV kV doc pm an cdv ct) ⟨us, kn.zip ws⟩ (ps.zip l) := by
  obtain ⟨fd, F⟩ := c.def_ 24 (d := dd 34) rfl
  have hm : mg "balance" = some (.ref _) := He.glo_ok X G (c.fact 24 (f := .glo "balance") rfl)
  refine Mi.def_row (N := K91.N_balance) (ps := [("earth" : Str)]) F hm rfl (by decide +kernel) (fun _ _ _ _ _ _ us hl => match us, hl with | [_], _ => rfl) ?_
  intro np kn pm' hmem
  simp only [K91.kwt, List.mem_cons, Prod.mk.injEq, List.not_mem_nil, or_false] at hmem
  have hmem2 : (np = 0 ∧ kn = [("earth" : Str)] ∧ pm' = [0]) := by revert hmem; simp
  clear hmem
  obtain ⟨rfl, rfl, rfl⟩ := hmem2
  intro kV doc pm an cdv ct us ws l h1 h2 h3 h4
  match us, ws, h1, h4 with
  | [], [w0], _, _ =>
    have e : l = [w0] := by
      simpa [Mi.permL] using h2.symm
    subst e
    rfl
theorem row__law_pot (X : K.In h) (G : h.Ns mainGlobals mg) (c : He.SaysD fa fn K) : ∃ (d : Mi.Df) (f : Addr) (name qual : Str) (params : Arguments) (body : List Stmt) (scope : Scope) (dV kV doc pm cdv ct oc : Value) (an od : Option Addr) (osl : Array (Option Value)) (N ps : List Str),
    K91.Ps[25]? = some d ∧ mg "_law_pot" = some (.ref f) ∧ PySem.W.keepIn K (.ref f) = true ∧ K.lookup f = some ⟨oc, od, .func (PySem.W.fnOf name qual params body scope dV kV doc pm an cdv ct), osl⟩ ∧ PySem.W.codeIn K cdv qual = true ∧ FnScope N ps scope ∧
    Binds K (PySem.W.fnOf name qual params body scope dV kV doc pm an cdv ct) ps [] ∧ ps.length = d.np ∧ N.length = d.np + d.nl ∧ Mi.mtB N K91.nm K91.fr K91.gl K91.kwt scope d.body body = true ∧
    ∀ np kn pm', (25, np, kn, pm') ∈ K91.kwt → ∀ (s : Shared) (us ws l : List Value), us.length = np → Mi.permL (us ++ ws) pm' = some l → l.length = ps.length → ws.length = kn.length → BindsTo s (PySem.W.fnOf name qual params body scope dV kV doc pm an cdv ct) ⟨us, kn.zip ws⟩ (ps.zip l) := by
  obtain ⟨fd, F⟩ := c.def_ 25 (d := dd 36) rfl
  have hm : mg "_law_pot" = some (.ref _) := He.glo_ok X G (c.fact 25 (f := .glo "_law_pot") rfl)
  refine Mi.def_row (N := K91.N__law_pot) (ps := [("script" : Str), ("k" : Str)]) F hm rfl (by decide +kernel) (fun _ _ _ _ _ _ us hl => match us, hl with | [_, _], _ => rfl) ?_
  intro np kn pm' hmem
  simp only [K91.kwt, List.mem_cons, Prod.mk.injEq, List.not_mem_nil, or_false] at hmem
  revert hmem; simp
theorem row__law_draw (X : K.In h) (G : h.Ns mainGlobals mg) (c : He.SaysD fa fn K) : ∃ (d : Mi.Df) (f : Addr) (name qual : Str) (params : Arguments) (body : List Stmt) (scope : Scope) (dV kV doc pm cdv ct oc : Value) (an od : Option Addr) (osl : Array (Option Value)) (N ps : List Str),
    K91.Ps[26]? = some d ∧ mg "_law_draw" = some (.ref f) ∧ PySem.W.keepIn K (.ref f) = true ∧ K.lookup f = some ⟨oc, od, .func (PySem.W.fnOf name qual params body scope dV kV doc pm an cdv ct), osl⟩ ∧ PySem.W.codeIn K cdv qual = true ∧ FnScope N ps scope ∧
    Binds K (PySem.W.fnOf name qual params body scope dV kV doc pm an cdv ct) ps [] ∧ ps.length = d.np ∧ N.length = d.np + d.nl ∧ Mi.mtB N K91.nm K91.fr K91.gl K91.kwt scope d.body body = true ∧
    ∀ np kn pm', (26, np, kn, pm') ∈ K91.kwt → ∀ (s : Shared) (us ws l : List Value), us.length = np → Mi.permL (us ++ ws) pm' = some l → l.length = ps.length → ws.length = kn.length → BindsTo s (PySem.W.fnOf name qual params body scope dV kV doc pm an cdv ct) ⟨us, kn.zip ws⟩ (ps.zip l) := by
  obtain ⟨fd, F⟩ := c.def_ 26 (d := dd 37) rfl
  have hm : mg "_law_draw" = some (.ref _) := He.glo_ok X G (c.fact 26 (f := .glo "_law_draw") rfl)
  refine Mi.def_row (N := K91.N__law_draw) (ps := [("pot" : Str), ("many" : Str)]) F hm rfl (by decide +kernel) (fun _ _ _ _ _ _ us hl => match us, hl with | [_, _], _ => rfl) ?_
  intro np kn pm' hmem
  simp only [K91.kwt, List.mem_cons, Prod.mk.injEq, List.not_mem_nil, or_false] at hmem
  revert hmem; simp
theorem row__law_pick (X : K.In h) (G : h.Ns mainGlobals mg) (c : He.SaysD fa fn K) : ∃ (d : Mi.Df) (f : Addr) (name qual : Str) (params : Arguments) (body : List Stmt) (scope : Scope) (dV kV doc pm cdv ct oc : Value) (an od : Option Addr) (osl : Array (Option Value)) (N ps : List Str),
    K91.Ps[27]? = some d ∧ mg "_law_pick" = some (.ref f) ∧ PySem.W.keepIn K (.ref f) = true ∧ K.lookup f = some ⟨oc, od, .func (PySem.W.fnOf name qual params body scope dV kV doc pm an cdv ct), osl⟩ ∧ PySem.W.codeIn K cdv qual = true ∧ FnScope N ps scope ∧
    Binds K (PySem.W.fnOf name qual params body scope dV kV doc pm an cdv ct) ps [] ∧ ps.length = d.np ∧ N.length = d.np + d.nl ∧ Mi.mtB N K91.nm K91.fr K91.gl K91.kwt scope d.body body = true ∧
    ∀ np kn pm', (27, np, kn, pm') ∈ K91.kwt → ∀ (s : Shared) (us ws l : List Value), us.length = np → Mi.permL (us ++ ws) pm' = some l → l.length = ps.length → ws.length = kn.length → BindsTo s (PySem.W.fnOf name qual params body scope dV kV doc pm an cdv ct) ⟨us, kn.zip ws⟩ (ps.zip l) := by
  obtain ⟨fd, F⟩ := c.def_ 27 (d := dd 38) rfl
  have hm : mg "_law_pick" = some (.ref _) := He.glo_ok X G (c.fact 27 (f := .glo "_law_pick") rfl)
  refine Mi.def_row (N := K91.N__law_pick) (ps := [("pot" : Str), ("some" : Str)]) F hm rfl (by decide +kernel) (fun _ _ _ _ _ _ us hl => match us, hl with | [_, _], _ => rfl) ?_
  intro np kn pm' hmem
  simp only [K91.kwt, List.mem_cons, Prod.mk.injEq, List.not_mem_nil, or_false] at hmem
  revert hmem; simp
theorem row__law_earth (X : K.In h) (G : h.Ns mainGlobals mg) (c : He.SaysD fa fn K) : ∃ (d : Mi.Df) (f : Addr) (name qual : Str) (params : Arguments) (body : List Stmt) (scope : Scope) (dV kV doc pm cdv ct oc : Value) (an od : Option Addr) (osl : Array (Option Value)) (N ps : List Str),
    K91.Ps[28]? = some d ∧ mg "_law_earth" = some (.ref f) ∧ PySem.W.keepIn K (.ref f) = true ∧ K.lookup f = some ⟨oc, od, .func (PySem.W.fnOf name qual params body scope dV kV doc pm an cdv ct), osl⟩ ∧ PySem.W.codeIn K cdv qual = true ∧ FnScope N ps scope ∧
    Binds K (PySem.W.fnOf name qual params body scope dV kV doc pm an cdv ct) ps [] ∧ ps.length = d.np ∧ N.length = d.np + d.nl ∧ Mi.mtB N K91.nm K91.fr K91.gl K91.kwt scope d.body body = true ∧
    ∀ np kn pm', (28, np, kn, pm') ∈ K91.kwt → ∀ (s : Shared) (us ws l : List Value), us.length = np → Mi.permL (us ++ ws) pm' = some l → l.length = ps.length → ws.length = kn.length → BindsTo s (PySem.W.fnOf name qual params body scope dV kV doc pm an cdv ct) ⟨us, kn.zip ws⟩ (ps.zip l) := by
  obtain ⟨fd, F⟩ := c.def_ 28 (d := dd 39) rfl
  have hm : mg "_law_earth" = some (.ref _) := He.glo_ok X G (c.fact 28 (f := .glo "_law_earth") rfl)
  refine Mi.def_row (N := K91.N__law_earth) (ps := [("pot" : Str), ("most" : Str)]) F hm rfl (by decide +kernel) (fun _ _ _ _ _ _ us hl => match us, hl with | [_, _], _ => rfl) ?_
  intro np kn pm' hmem
  simp only [K91.kwt, List.mem_cons, Prod.mk.injEq, List.not_mem_nil, or_false] at hmem
  revert hmem; simp
theorem row__law_hauled (X : K.In h) (G : h.Ns mainGlobals mg) (c : He.SaysD fa fn K) : ∃ (d : Mi.Df) (f : Addr) (name qual : Str) (params : Arguments) (body : List Stmt) (scope : Scope) (dV kV doc pm cdv ct oc : Value) (an od : Option Addr) (osl : Array (Option Value)) (N ps : List Str),
    K91.Ps[29]? = some d ∧ mg "_law_hauled" = some (.ref f) ∧ PySem.W.keepIn K (.ref f) = true ∧ K.lookup f = some ⟨oc, od, .func (PySem.W.fnOf name qual params body scope dV kV doc pm an cdv ct), osl⟩ ∧ PySem.W.codeIn K cdv qual = true ∧ FnScope N ps scope ∧
    Binds K (PySem.W.fnOf name qual params body scope dV kV doc pm an cdv ct) ps [] ∧ ps.length = d.np ∧ N.length = d.np + d.nl ∧ Mi.mtB N K91.nm K91.fr K91.gl K91.kwt scope d.body body = true ∧
    ∀ np kn pm', (29, np, kn, pm') ∈ K91.kwt → ∀ (s : Shared) (us ws l : List Value), us.length = np → Mi.permL (us ++ ws) pm' = some l → l.length = ps.length → ws.length = kn.length → BindsTo s (PySem.W.fnOf name qual params body scope dV kV doc pm an cdv ct) ⟨us, kn.zip ws⟩ (ps.zip l) := by
  obtain ⟨fd, F⟩ := c.def_ 29 (d := dd 40) rfl
  have hm : mg "_law_hauled" = some (.ref _) := He.glo_ok X G (c.fact 29 (f := .glo "_law_hauled") rfl)
  refine Mi.def_row (N := K91.N__law_hauled) (ps := [("way" : Str), ("much" : Str)]) F hm rfl (by decide +kernel) (fun _ _ _ _ _ _ us hl => match us, hl with | [_, _], _ => rfl) ?_
  intro np kn pm' hmem
  simp only [K91.kwt, List.mem_cons, Prod.mk.injEq, List.not_mem_nil, or_false] at hmem
  revert hmem; simp
theorem row__law_hauls (X : K.In h) (G : h.Ns mainGlobals mg) (c : He.SaysD fa fn K) : ∃ (d : Mi.Df) (f : Addr) (name qual : Str) (params : Arguments) (body : List Stmt) (scope : Scope) (dV kV doc pm cdv ct oc : Value) (an od : Option Addr) (osl : Array (Option Value)) (N ps : List Str),
    K91.Ps[30]? = some d ∧ mg "_law_hauls" = some (.ref f) ∧ PySem.W.keepIn K (.ref f) = true ∧ K.lookup f = some ⟨oc, od, .func (PySem.W.fnOf name qual params body scope dV kV doc pm an cdv ct), osl⟩ ∧ PySem.W.codeIn K cdv qual = true ∧ FnScope N ps scope ∧
    Binds K (PySem.W.fnOf name qual params body scope dV kV doc pm an cdv ct) ps [] ∧ ps.length = d.np ∧ N.length = d.np + d.nl ∧ Mi.mtB N K91.nm K91.fr K91.gl K91.kwt scope d.body body = true ∧
    ∀ np kn pm', (30, np, kn, pm') ∈ K91.kwt → ∀ (s : Shared) (us ws l : List Value), us.length = np → Mi.permL (us ++ ws) pm' = some l → l.length = ps.length → ws.length = kn.length → BindsTo s (PySem.W.fnOf name qual params body scope dV kV doc pm an cdv ct) ⟨us, kn.zip ws⟩ (ps.zip l) := by
  obtain ⟨fd, F⟩ := c.def_ 30 (d := dd 42) rfl
  have hm : mg "_law_hauls" = some (.ref _) := He.glo_ok X G (c.fact 30 (f := .glo "_law_hauls") rfl)
  refine Mi.def_row (N := K91.N__law_hauls) (ps := [("earth" : Str), ("bought" : Str), ("dropped" : Str)]) F hm rfl (by decide +kernel) (fun _ _ _ _ _ _ us hl => match us, hl with | [_, _, _], _ => rfl) ?_
  intro np kn pm' hmem
  simp only [K91.kwt, List.mem_cons, Prod.mk.injEq, List.not_mem_nil, or_false] at hmem
  revert hmem; simp
theorem row__law_plan (X : K.In h) (G : h.Ns mainGlobals mg) (c : He.SaysD fa fn K) : ∃ (d : Mi.Df) (f : Addr) (name qual : Str) (params : Arguments) (body : List Stmt) (scope : Scope) (dV kV doc pm cdv ct oc : Value) (an od : Option Addr) (osl : Array (Option Value)) (N ps : List Str),
    K91.Ps[31]? = some d ∧ mg "_law_plan" = some (.ref f) ∧ PySem.W.keepIn K (.ref f) = true ∧ K.lookup f = some ⟨oc, od, .func (PySem.W.fnOf name qual params body scope dV kV doc pm an cdv ct), osl⟩ ∧ PySem.W.codeIn K cdv qual = true ∧ FnScope N ps scope ∧
    Binds K (PySem.W.fnOf name qual params body scope dV kV doc pm an cdv ct) ps [] ∧ ps.length = d.np ∧ N.length = d.np + d.nl ∧ Mi.mtB N K91.nm K91.fr K91.gl K91.kwt scope d.body body = true ∧
    ∀ np kn pm', (31, np, kn, pm') ∈ K91.kwt → ∀ (s : Shared) (us ws l : List Value), us.length = np → Mi.permL (us ++ ws) pm' = some l → l.length = ps.length → ws.length = kn.length → BindsTo s (PySem.W.fnOf name qual params body scope dV kV doc pm an cdv ct) ⟨us, kn.zip ws⟩ (ps.zip l) := by
  obtain ⟨fd, F⟩ := c.def_ 31 (d := dd 46) rfl
  have hm : mg "_law_plan" = some (.ref _) := He.glo_ok X G (c.fact 31 (f := .glo "_law_plan") rfl)
  refine Mi.def_row (N := K91.N__law_plan) (ps := [("pot" : Str), ("earth" : Str)]) F hm rfl (by decide +kernel) (fun _ _ _ _ _ _ us hl => match us, hl with | [_, _], _ => rfl) ?_
  intro np kn pm' hmem
  simp only [K91.kwt, List.mem_cons, Prod.mk.injEq, List.not_mem_nil, or_false] at hmem
  revert hmem; simp
theorem row__law_ends (X : K.In h) (G : h.Ns mainGlobals mg) (c : He.SaysD fa fn K) : ∃ (d : Mi.Df) (f : Addr) (name qual : Str) (params : Arguments) (body : List Stmt) (scope : Scope) (dV kV doc pm cdv ct oc : Value) (an od : Option Addr) (osl : Array (Option Value)) (N ps : List Str),
    K91.Ps[32]? = some d ∧ mg "_law_ends" = some (.ref f) ∧ PySem.W.keepIn K (.ref f) = true ∧ K.lookup f = some ⟨oc, od, .func (PySem.W.fnOf name qual params body scope dV kV doc pm an cdv ct), osl⟩ ∧ PySem.W.codeIn K cdv qual = true ∧ FnScope N ps scope ∧
    Binds K (PySem.W.fnOf name qual params body scope dV kV doc pm an cdv ct) ps [] ∧ ps.length = d.np ∧ N.length = d.np + d.nl ∧ Mi.mtB N K91.nm K91.fr K91.gl K91.kwt scope d.body body = true ∧
    ∀ np kn pm', (32, np, kn, pm') ∈ K91.kwt → ∀ (s : Shared) (us ws l : List Value), us.length = np → Mi.permL (us ++ ws) pm' = some l → l.length = ps.length → ws.length = kn.length → BindsTo s (PySem.W.fnOf name qual params body scope dV kV doc pm an cdv ct) ⟨us, kn.zip ws⟩ (ps.zip l) := by
  obtain ⟨fd, F⟩ := c.def_ 32 (d := dd 47) rfl
  have hm : mg "_law_ends" = some (.ref _) := He.glo_ok X G (c.fact 32 (f := .glo "_law_ends") rfl)
  refine Mi.def_row (N := K91.N__law_ends) (ps := [("earth" : Str), ("plan" : Str)]) F hm rfl (by decide +kernel) (fun _ _ _ _ _ _ us hl => match us, hl with | [_, _], _ => rfl) ?_
  intro np kn pm' hmem
  simp only [K91.kwt, List.mem_cons, Prod.mk.injEq, List.not_mem_nil, or_false] at hmem
  revert hmem; simp
theorem row__law_table (X : K.In h) (G : h.Ns mainGlobals mg) (c : He.SaysD fa fn K) : ∃ (d : Mi.Df) (f : Addr) (name qual : Str) (params : Arguments) (body : List Stmt) (scope : Scope) (dV kV doc pm cdv ct oc : Value) (an od : Option Addr) (osl : Array (Option Value)) (N ps : List Str),
    K91.Ps[33]? = some d ∧ mg "_law_table" = some (.ref f) ∧ PySem.W.keepIn K (.ref f) = true ∧ K.lookup f = some ⟨oc, od, .func (PySem.W.fnOf name qual params body scope dV kV doc pm an cdv ct), osl⟩ ∧ PySem.W.codeIn K cdv qual = true ∧ FnScope N ps scope ∧
    Binds K (PySem.W.fnOf name qual params body scope dV kV doc pm an cdv ct) ps [] ∧ ps.length = d.np ∧ N.length = d.np + d.nl ∧ Mi.mtB N K91.nm K91.fr K91.gl K91.kwt scope d.body body = true ∧
    ∀ np kn pm', (33, np, kn, pm') ∈ K91.kwt → ∀ (s : Shared) (us ws l : List Value), us.length = np → Mi.permL (us ++ ws) pm' = some l → l.length = ps.length → ws.length = kn.length → BindsTo s (PySem.W.fnOf name qual params body scope dV kV doc pm an cdv ct) ⟨us, kn.zip ws⟩ (ps.zip l) := by
  obtain ⟨fd, F⟩ := c.def_ 33 (d := dd 48) rfl
  have hm : mg "_law_table" = some (.ref _) := He.glo_ok X G (c.fact 33 (f := .glo "_law_table") rfl)
  refine Mi.def_row (N := K91.N__law_table) (ps := [("earth" : Str), ("plan" : Str), ("at" : Str)]) F hm rfl (by decide +kernel) (fun _ _ _ _ _ _ us hl => match us, hl with | [_, _, _], _ => rfl) ?_
  intro np kn pm' hmem
  simp only [K91.kwt, List.mem_cons, Prod.mk.injEq, List.not_mem_nil, or_false] at hmem
  revert hmem; simp
theorem row__law_is_int (X : K.In h) (G : h.Ns mainGlobals mg) (c : He.SaysD fa fn K) : ∃ (d : Mi.Df) (f : Addr) (name qual : Str) (params : Arguments) (body : List Stmt) (scope : Scope) (dV kV doc pm cdv ct oc : Value) (an od : Option Addr) (osl : Array (Option Value)) (N ps : List Str),
    K91.Ps[34]? = some d ∧ mg "_law_is_int" = some (.ref f) ∧ PySem.W.keepIn K (.ref f) = true ∧ K.lookup f = some ⟨oc, od, .func (PySem.W.fnOf name qual params body scope dV kV doc pm an cdv ct), osl⟩ ∧ PySem.W.codeIn K cdv qual = true ∧ FnScope N ps scope ∧
    Binds K (PySem.W.fnOf name qual params body scope dV kV doc pm an cdv ct) ps [] ∧ ps.length = d.np ∧ N.length = d.np + d.nl ∧ Mi.mtB N K91.nm K91.fr K91.gl K91.kwt scope d.body body = true ∧
    ∀ np kn pm', (34, np, kn, pm') ∈ K91.kwt → ∀ (s : Shared) (us ws l : List Value), us.length = np → Mi.permL (us ++ ws) pm' = some l → l.length = ps.length → ws.length = kn.length → BindsTo s (PySem.W.fnOf name qual params body scope dV kV doc pm an cdv ct) ⟨us, kn.zip ws⟩ (ps.zip l) := by
  obtain ⟨fd, F⟩ := c.def_ 34 (d := dd 49) rfl
  have hm : mg "_law_is_int" = some (.ref _) := He.glo_ok X G (c.fact 34 (f := .glo "_law_is_int") rfl)
  refine Mi.def_row (N := K91.N__law_is_int) (ps := [("value" : Str)]) F hm rfl (by decide +kernel) (fun _ _ _ _ _ _ us hl => match us, hl with | [_], _ => rfl) ?_
  intro np kn pm' hmem
  simp only [K91.kwt, List.mem_cons, Prod.mk.injEq, List.not_mem_nil, or_false] at hmem
  revert hmem; simp
theorem row__law_is_table (X : K.In h) (G : h.Ns mainGlobals mg) (c : He.SaysD fa fn K) : ∃ (d : Mi.Df) (f : Addr) (name qual : Str) (params : Arguments) (body : List Stmt) (scope : Scope) (dV kV doc pm cdv ct oc : Value) (an od : Option Addr) (osl : Array (Option Value)) (N ps : List Str),
    K91.Ps[35]? = some d ∧ mg "_law_is_table" = some (.ref f) ∧ PySem.W.keepIn K (.ref f) = true ∧ K.lookup f = some ⟨oc, od, .func (PySem.W.fnOf name qual params body scope dV kV doc pm an cdv ct), osl⟩ ∧ PySem.W.codeIn K cdv qual = true ∧ FnScope N ps scope ∧
    Binds K (PySem.W.fnOf name qual params body scope dV kV doc pm an cdv ct) ps [] ∧ ps.length = d.np ∧ N.length = d.np + d.nl ∧ Mi.mtB N K91.nm K91.fr K91.gl K91.kwt scope d.body body = true ∧
    ∀ np kn pm', (35, np, kn, pm') ∈ K91.kwt → ∀ (s : Shared) (us ws l : List Value), us.length = np → Mi.permL (us ++ ws) pm' = some l → l.length = ps.length → ws.length = kn.length → BindsTo s (PySem.W.fnOf name qual params body scope dV kV doc pm an cdv ct) ⟨us, kn.zip ws⟩ (ps.zip l) := by
  obtain ⟨fd, F⟩ := c.def_ 35 (d := dd 50) rfl
  have hm : mg "_law_is_table" = some (.ref _) := He.glo_ok X G (c.fact 35 (f := .glo "_law_is_table") rfl)
  refine Mi.def_row (N := K91.N__law_is_table) (ps := [("earth" : Str), ("plan" : Str), ("value" : Str)]) F hm rfl (by decide +kernel) (fun _ _ _ _ _ _ us hl => match us, hl with | [_, _, _], _ => rfl) ?_
  intro np kn pm' hmem
  simp only [K91.kwt, List.mem_cons, Prod.mk.injEq, List.not_mem_nil, or_false] at hmem
  revert hmem; simp
theorem row__law_table_cost (X : K.In h) (G : h.Ns mainGlobals mg) (c : He.SaysD fa fn K) : ∃ (d : Mi.Df) (f : Addr) (name qual : Str) (params : Arguments) (body : List Stmt) (scope : Scope) (dV kV doc pm cdv ct oc : Value) (an od : Option Addr) (osl : Array (Option Value)) (N ps : List Str),
    K91.Ps[36]? = some d ∧ mg "_law_table_cost" = some (.ref f) ∧ PySem.W.keepIn K (.ref f) = true ∧ K.lookup f = some ⟨oc, od, .func (PySem.W.fnOf name qual params body scope dV kV doc pm an cdv ct), osl⟩ ∧ PySem.W.codeIn K cdv qual = true ∧ FnScope N ps scope ∧
    Binds K (PySem.W.fnOf name qual params body scope dV kV doc pm an cdv ct) ps [] ∧ ps.length = d.np ∧ N.length = d.np + d.nl ∧ Mi.mtB N K91.nm K91.fr K91.gl K91.kwt scope d.body body = true ∧
    ∀ np kn pm', (36, np, kn, pm') ∈ K91.kwt → ∀ (s : Shared) (us ws l : List Value), us.length = np → Mi.permL (us ++ ws) pm' = some l → l.length = ps.length → ws.length = kn.length → BindsTo s (PySem.W.fnOf name qual params body scope dV kV doc pm an cdv ct) ⟨us, kn.zip ws⟩ (ps.zip l) := by
  obtain ⟨fd, F⟩ := c.def_ 36 (d := dd 51) rfl
  have hm : mg "_law_table_cost" = some (.ref _) := He.glo_ok X G (c.fact 36 (f := .glo "_law_table_cost") rfl)
  refine Mi.def_row (N := K91.N__law_table_cost) (ps := [("earth" : Str), ("value" : Str)]) F hm rfl (by decide +kernel) (fun _ _ _ _ _ _ us hl => match us, hl with | [_, _], _ => rfl) ?_
  intro np kn pm' hmem
  simp only [K91.kwt, List.mem_cons, Prod.mk.injEq, List.not_mem_nil, or_false] at hmem
  revert hmem; simp
theorem row__law_tips_cost (X : K.In h) (G : h.Ns mainGlobals mg) (c : He.SaysD fa fn K) : ∃ (d : Mi.Df) (f : Addr) (name qual : Str) (params : Arguments) (body : List Stmt) (scope : Scope) (dV kV doc pm cdv ct oc : Value) (an od : Option Addr) (osl : Array (Option Value)) (N ps : List Str),
    K91.Ps[37]? = some d ∧ mg "_law_tips_cost" = some (.ref f) ∧ PySem.W.keepIn K (.ref f) = true ∧ K.lookup f = some ⟨oc, od, .func (PySem.W.fnOf name qual params body scope dV kV doc pm an cdv ct), osl⟩ ∧ PySem.W.codeIn K cdv qual = true ∧ FnScope N ps scope ∧
    Binds K (PySem.W.fnOf name qual params body scope dV kV doc pm an cdv ct) ps [] ∧ ps.length = d.np ∧ N.length = d.np + d.nl ∧ Mi.mtB N K91.nm K91.fr K91.gl K91.kwt scope d.body body = true ∧
    ∀ np kn pm', (37, np, kn, pm') ∈ K91.kwt → ∀ (s : Shared) (us ws l : List Value), us.length = np → Mi.permL (us ++ ws) pm' = some l → l.length = ps.length → ws.length = kn.length → BindsTo s (PySem.W.fnOf name qual params body scope dV kV doc pm an cdv ct) ⟨us, kn.zip ws⟩ (ps.zip l) := by
  obtain ⟨fd, F⟩ := c.def_ 37 (d := dd 52) rfl
  have hm : mg "_law_tips_cost" = some (.ref _) := He.glo_ok X G (c.fact 37 (f := .glo "_law_tips_cost") rfl)
  refine Mi.def_row (N := K91.N__law_tips_cost) (ps := [("earth" : Str), ("plan" : Str)]) F hm rfl (by decide +kernel) (fun _ _ _ _ _ _ us hl => match us, hl with | [_, _], _ => rfl) ?_
  intro np kn pm' hmem
  simp only [K91.kwt, List.mem_cons, Prod.mk.injEq, List.not_mem_nil, or_false] at hmem
  revert hmem; simp
theorem row__law_bent (X : K.In h) (G : h.Ns mainGlobals mg) (c : He.SaysD fa fn K) : ∃ (d : Mi.Df) (f : Addr) (name qual : Str) (params : Arguments) (body : List Stmt) (scope : Scope) (dV kV doc pm cdv ct oc : Value) (an od : Option Addr) (osl : Array (Option Value)) (N ps : List Str),
    K91.Ps[38]? = some d ∧ mg "_law_bent" = some (.ref f) ∧ PySem.W.keepIn K (.ref f) = true ∧ K.lookup f = some ⟨oc, od, .func (PySem.W.fnOf name qual params body scope dV kV doc pm an cdv ct), osl⟩ ∧ PySem.W.codeIn K cdv qual = true ∧ FnScope N ps scope ∧
    Binds K (PySem.W.fnOf name qual params body scope dV kV doc pm an cdv ct) ps [] ∧ ps.length = d.np ∧ N.length = d.np + d.nl ∧ Mi.mtB N K91.nm K91.fr K91.gl K91.kwt scope d.body body = true ∧
    ∀ np kn pm', (38, np, kn, pm') ∈ K91.kwt → ∀ (s : Shared) (us ws l : List Value), us.length = np → Mi.permL (us ++ ws) pm' = some l → l.length = ps.length → ws.length = kn.length → BindsTo s (PySem.W.fnOf name qual params body scope dV kV doc pm an cdv ct) ⟨us, kn.zip ws⟩ (ps.zip l) := by
  obtain ⟨fd, F⟩ := c.def_ 38 (d := dd 53) rfl
  have hm : mg "_law_bent" = some (.ref _) := He.glo_ok X G (c.fact 38 (f := .glo "_law_bent") rfl)
  refine Mi.def_row (N := K91.N__law_bent) (ps := [("pot" : Str), ("value" : Str)]) F hm rfl (by decide +kernel) (fun _ _ _ _ _ _ us hl => match us, hl with | [_, _], _ => rfl) ?_
  intro np kn pm' hmem
  simp only [K91.kwt, List.mem_cons, Prod.mk.injEq, List.not_mem_nil, or_false] at hmem
  revert hmem; simp
theorem row__law_lines_right (X : K.In h) (G : h.Ns mainGlobals mg) (c : He.SaysD fa fn K) : ∃ (d : Mi.Df) (f : Addr) (name qual : Str) (params : Arguments) (body : List Stmt) (scope : Scope) (dV kV doc pm cdv ct oc : Value) (an od : Option Addr) (osl : Array (Option Value)) (N ps : List Str),
    K91.Ps[39]? = some d ∧ mg "_law_lines_right" = some (.ref f) ∧ PySem.W.keepIn K (.ref f) = true ∧ K.lookup f = some ⟨oc, od, .func (PySem.W.fnOf name qual params body scope dV kV doc pm an cdv ct), osl⟩ ∧ PySem.W.codeIn K cdv qual = true ∧ FnScope N ps scope ∧
    Binds K (PySem.W.fnOf name qual params body scope dV kV doc pm an cdv ct) ps [] ∧ ps.length = d.np ∧ N.length = d.np + d.nl ∧ Mi.mtB N K91.nm K91.fr K91.gl K91.kwt scope d.body body = true ∧
    ∀ np kn pm', (39, np, kn, pm') ∈ K91.kwt → ∀ (s : Shared) (us ws l : List Value), us.length = np → Mi.permL (us ++ ws) pm' = some l → l.length = ps.length → ws.length = kn.length → BindsTo s (PySem.W.fnOf name qual params body scope dV kV doc pm an cdv ct) ⟨us, kn.zip ws⟩ (ps.zip l) := by
  obtain ⟨fd, F⟩ := c.def_ 39 (d := dd 54) rfl
  have hm : mg "_law_lines_right" = some (.ref _) := He.glo_ok X G (c.fact 39 (f := .glo "_law_lines_right") rfl)
  refine Mi.def_row (N := K91.N__law_lines_right) (ps := [("earth" : Str)]) F hm rfl (by decide +kernel) (fun _ _ _ _ _ _ us hl => match us, hl with | [_], _ => rfl) ?_
  intro np kn pm' hmem
  simp only [K91.kwt, List.mem_cons, Prod.mk.injEq, List.not_mem_nil, or_false] at hmem
  revert hmem; simp
theorem row__law_right (X : K.In h) (G : h.Ns mainGlobals mg) (c : He.SaysD fa fn K) : ∃ (d : Mi.Df) (f : Addr) (name qual : Str) (params : Arguments) (body : List Stmt) (scope : Scope) (dV kV doc pm cdv ct oc : Value) (an od : Option Addr) (osl : Array (Option Value)) (N ps : List Str),
    K91.Ps[40]? = some d ∧ mg "_law_right" = some (.ref f) ∧ PySem.W.keepIn K (.ref f) = true ∧ K.lookup f = some ⟨oc, od, .func (PySem.W.fnOf name qual params body scope dV kV doc pm an cdv ct), osl⟩ ∧ PySem.W.codeIn K cdv qual = true ∧ FnScope N ps scope ∧
    Binds K (PySem.W.fnOf name qual params body scope dV kV doc pm an cdv ct) ps [] ∧ ps.length = d.np ∧ N.length = d.np + d.nl ∧ Mi.mtB N K91.nm K91.fr K91.gl K91.kwt scope d.body body = true ∧
    ∀ np kn pm', (40, np, kn, pm') ∈ K91.kwt → ∀ (s : Shared) (us ws l : List Value), us.length = np → Mi.permL (us ++ ws) pm' = some l → l.length = ps.length → ws.length = kn.length → BindsTo s (PySem.W.fnOf name qual params body scope dV kV doc pm an cdv ct) ⟨us, kn.zip ws⟩ (ps.zip l) := by
  obtain ⟨fd, F⟩ := c.def_ 40 (d := dd 55) rfl
  have hm : mg "_law_right" = some (.ref _) := He.glo_ok X G (c.fact 40 (f := .glo "_law_right") rfl)
  refine Mi.def_row (N := K91.N__law_right) (ps := [("pot" : Str), ("earth" : Str)]) F hm rfl (by decide +kernel) (fun _ _ _ _ _ _ us hl => match us, hl with | [_, _], _ => rfl) ?_
  intro np kn pm' hmem
  simp only [K91.kwt, List.mem_cons, Prod.mk.injEq, List.not_mem_nil, or_false] at hmem
  revert hmem; simp
theorem row__law_great (X : K.In h) (G : h.Ns mainGlobals mg) (c : He.SaysD fa fn K) : ∃ (d : Mi.Df) (f : Addr) (name qual : Str) (params : Arguments) (body : List Stmt) (scope : Scope) (dV kV doc pm cdv ct oc : Value) (an od : Option Addr) (osl : Array (Option Value)) (N ps : List Str),
    K91.Ps[41]? = some d ∧ mg "_law_great" = some (.ref f) ∧ PySem.W.keepIn K (.ref f) = true ∧ K.lookup f = some ⟨oc, od, .func (PySem.W.fnOf name qual params body scope dV kV doc pm an cdv ct), osl⟩ ∧ PySem.W.codeIn K cdv qual = true ∧ FnScope N ps scope ∧
    Binds K (PySem.W.fnOf name qual params body scope dV kV doc pm an cdv ct) ps [] ∧ ps.length = d.np ∧ N.length = d.np + d.nl ∧ Mi.mtB N K91.nm K91.fr K91.gl K91.kwt scope d.body body = true ∧
    ∀ np kn pm', (41, np, kn, pm') ∈ K91.kwt → ∀ (s : Shared) (us ws l : List Value), us.length = np → Mi.permL (us ++ ws) pm' = some l → l.length = ps.length → ws.length = kn.length → BindsTo s (PySem.W.fnOf name qual params body scope dV kV doc pm an cdv ct) ⟨us, kn.zip ws⟩ (ps.zip l) := by
  obtain ⟨fd, F⟩ := c.def_ 41 (d := dd 56) rfl
  have hm : mg "_law_great" = some (.ref _) := He.glo_ok X G (c.fact 41 (f := .glo "_law_great") rfl)
  refine Mi.def_row (N := K91.N__law_great) (ps := [("pot" : Str)]) F hm rfl (by decide +kernel) (fun _ _ _ _ _ _ us hl => match us, hl with | [_], _ => rfl) ?_
  intro np kn pm' hmem
  simp only [K91.kwt, List.mem_cons, Prod.mk.injEq, List.not_mem_nil, or_false] at hmem
  revert hmem; simp
theorem row_law (X : K.In h) (G : h.Ns mainGlobals mg) (c : He.SaysD fa fn K) : ∃ (d : Mi.Df) (f : Addr) (name qual : Str) (params : Arguments) (body : List Stmt) (scope : Scope) (dV kV doc pm cdv ct oc : Value) (an od : Option Addr) (osl : Array (Option Value)) (N ps : List Str),
    K91.Ps[42]? = some d ∧ mg "law" = some (.ref f) ∧ PySem.W.keepIn K (.ref f) = true ∧ K.lookup f = some ⟨oc, od, .func (PySem.W.fnOf name qual params body scope dV kV doc pm an cdv ct), osl⟩ ∧ PySem.W.codeIn K cdv qual = true ∧ FnScope N ps scope ∧
    Binds K (PySem.W.fnOf name qual params body scope dV kV doc pm an cdv ct) ps [] ∧ ps.length = d.np ∧ N.length = d.np + d.nl ∧ Mi.mtB N K91.nm K91.fr K91.gl K91.kwt scope d.body body = true ∧
    ∀ np kn pm', (42, np, kn, pm') ∈ K91.kwt → ∀ (s : Shared) (us ws l : List Value), us.length = np → Mi.permL (us ++ ws) pm' = some l → l.length = ps.length → ws.length = kn.length → BindsTo s (PySem.W.fnOf name qual params body scope dV kV doc pm an cdv ct) ⟨us, kn.zip ws⟩ (ps.zip l) := by
  obtain ⟨fd, F⟩ := c.def_ 42 (d := dd 57) rfl
  have hm : mg "law" = some (.ref _) := He.glo_ok X G (c.fact 42 (f := .glo "law") rfl)
  refine Mi.def_row (N := K91.N_law) (ps := [("script" : Str)]) F hm rfl (by decide +kernel) (fun _ _ _ _ _ _ us hl => match us, hl with | [_], _ => rfl) ?_
  intro np kn pm' hmem
  simp only [K91.kwt, List.mem_cons, Prod.mk.injEq, List.not_mem_nil, or_false] at hmem
  revert hmem; simp
theorem md (prog : Program) (X : K.In h) (G : h.Ns mainGlobals mg) (c : He.SaysD fa fn K) : Mi.Md prog w K mg K91.nm K91.fr K91.gl K91.kwt K91.Ps where
  defs := fun k x hx => by
    match k, hx with
    | 0, hx => exact Option.some.inj hx ▸ row_is_list X G c
    | 1, hx => exact Option.some.inj hx ▸ row_is_integer X G c
    | 2, hx => exact Option.some.inj hx ▸ row_is_count X G c
    | 3, hx => exact Option.some.inj hx ▸ row_is_position X G c
    | 4, hx => exact Option.some.inj hx ▸ row_pair_is_right X G c
    | 5, hx => exact Option.some.inj hx ▸ row_earth_is_right X G c
    | 6, hx => exact Option.some.inj hx ▸ row_is_row X G c
    | 7, hx => exact Option.some.inj hx ▸ row_tips_are_kept X G c
    | 8, hx => exact Option.some.inj hx ▸ row_plan_is_right X G c
    | 9, hx => exact Option.some.inj hx ▸ row_check_earth X G c
    | 10, hx => exact Option.some.inj hx ▸ row_check_plan X G c
    | 11, hx => exact Option.some.inj hx ▸ row_cost_of X G c
    | 12, hx => exact Option.some.inj hx ▸ row_gives_and_takes X G c
    | 13, hx => exact Option.some.inj hx ▸ row_table_of X G c
    | 14, hx => exact Option.some.inj hx ▸ row_entry_is_right X G c
    | 15, hx => exact Option.some.inj hx ▸ row_table_is_right X G c
    | 16, hx => exact Option.some.inj hx ▸ row_way_of X G c
    | 17, hx => exact Option.some.inj hx ▸ row_line_of X G c
    | 18, hx => exact Option.some.inj hx ▸ row_shifted_cost X G c
    | 19, hx => exact Option.some.inj hx ▸ row_cost X G c
    | 20, hx => exact Option.some.inj hx ▸ row_table X G c
    | 21, hx => exact Option.some.inj hx ▸ row_is_table X G c
    | 22, hx => exact Option.some.inj hx ▸ row_table_cost X G c
    | 23, hx => exact Option.some.inj hx ▸ row_line X G c
    | 24, hx => exact Option.some.inj hx ▸ row_balance X G c
    | 25, hx => exact Option.some.inj hx ▸ row__law_pot X G c
    | 26, hx => exact Option.some.inj hx ▸ row__law_draw X G c
    | 27, hx => exact Option.some.inj hx ▸ row__law_pick X G c
    | 28, hx => exact Option.some.inj hx ▸ row__law_earth X G c
    | 29, hx => exact Option.some.inj hx ▸ row__law_hauled X G c
    | 30, hx => exact Option.some.inj hx ▸ row__law_hauls X G c
    | 31, hx => exact Option.some.inj hx ▸ row__law_plan X G c
    | 32, hx => exact Option.some.inj hx ▸ row__law_ends X G c
    | 33, hx => exact Option.some.inj hx ▸ row__law_table X G c
    | 34, hx => exact Option.some.inj hx ▸ row__law_is_int X G c
    | 35, hx => exact Option.some.inj hx ▸ row__law_is_table X G c
    | 36, hx => exact Option.some.inj hx ▸ row__law_table_cost X G c
    | 37, hx => exact Option.some.inj hx ▸ row__law_tips_cost X G c
    | 38, hx => exact Option.some.inj hx ▸ row__law_bent X G c
    | 39, hx => exact Option.some.inj hx ▸ row__law_lines_right X G c
    | 40, hx => exact Option.some.inj hx ▸ row__law_right X G c
    | 41, hx => exact Option.some.inj hx ▸ row__law_great X G c
    | 42, hx => exact Option.some.inj hx ▸ row_law X G c
    | n + 43, hx => exact absurd hx (by simp [K91.nm])
  frs := fun x hx => by
    have : ∀ i : Nat, ∀ y, K91.fr[i]? = some y → mg y = none := fun i y hy => He.free_ok X G (c.fact (43 + i) (f := .free y) (by
      unfold fa
      have l1 : (fn.map fun d => He.Fa.glo d.name).length = 43 := rfl
      have hi : i < K91.fr.length := (List.getElem?_eq_some_iff.mp hy).1
      rw [List.getElem?_append_left (by simp [l1] <;> omega)]
      rw [List.getElem?_append_left (by simp [l1] <;> omega)]
      rw [List.getElem?_append_left (by simp [l1] <;> omega)]
      rw [List.getElem?_append_left (by simp [l1] <;> omega)]
      rw [List.getElem?_append_right (by rw [l1]; omega), l1, Nat.add_sub_cancel_left, List.getElem?_map, hy]
      rfl))
    obtain ⟨i, hi⟩ := List.getElem?_of_mem hx
    exact this i x hi
  gls := fun j p hp => by
    match j, hp with
    | 0, hp =>
      obtain ⟨t, e⟩ := He.int_ok X G (c.fact 61 (f := .int "MOST_PLACES" 10) rfl)
      cases Option.some.inj hp
      exact ⟨.int 10, _, e, ⟨t, rfl⟩, fun _ _ => by simp only [Mi.Rp]⟩
    | 1, hp =>
      obtain ⟨t, e⟩ := He.int_ok X G (c.fact 62 (f := .int "MOST_AMOUNT" 99) rfl)
      cases Option.some.inj hp
      exact ⟨.int 99, _, e, ⟨t, rfl⟩, fun _ _ => by simp only [Mi.Rp]⟩
    | 2, hp =>
      obtain ⟨t, e⟩ := He.int_ok X G (c.fact 63 (f := .int "MOST_WAY" 99) rfl)
      cases Option.some.inj hp
      exact ⟨.int 99, _, e, ⟨t, rfl⟩, fun _ _ => by simp only [Mi.Rp]⟩
    | 3, hp =>
      obtain ⟨t, e⟩ := He.int_ok X G (c.fact 64 (f := .int "MOST_TIP" 999) rfl)
      cases Option.some.inj hp
      exact ⟨.int 999, _, e, ⟨t, rfl⟩, fun _ _ => by simp only [Mi.Rp]⟩
    | n + 4, hp => exact absurd hp (by simp [K91.gl])
theorem fin (prog : Program) {f : Addr} (X : K.In h) (G : h.Ns mainGlobals mg) (c : He.SaysD fa fn K) (hmg : mg ("law" : Str) = some (.ref f)) : ∃ (fd : FuncData) (sp : List V → Hp → VK → Prop), (∀ (s : Shared) (u : Value), BindsTo s fd ⟨[u], []⟩ [("script", u)]) ∧
    (∀ (H : Hp) (a : Addr) (ns : List Int), ns.length ≤ 63 → Mi.Scr K H a ns → sp [.ref a] H fun v _ => v = .bl true) ∧ ∀ base : Heap, Mi.FnG prog w K mg base 9 f fd ["script"] sp := by
  obtain ⟨fd, F⟩ := c.def_ 42 (d := dd 57) rfl
  have e := hmg.symm.trans (He.glo_ok X G (c.fact 42 (f := .glo "law") rfl))
  cases e
  have M := md (w := w) prog X G c
  obtain ⟨kV, doc, pm, cdv, ct, oc, an, od, osl, rfl, lk, hcd, hS, hp, hN, hm⟩ := Mi.def_row2 (nm := K91.nm) (fr := K91.fr) (gl := K91.gl) (kwt := K91.kwt) (N := K91.N_law) (ps := [("script" : Str)]) (d := ⟨1, 2, [false], K91.s_law⟩) F (by decide +kernel)
  refine ⟨_, Mi.spD K (Mi.Lof K91.nm mg) (Mi.cl K91.gl K91.Ps 9) 42, fun s u => .of_eq rfl, fun H a ns _ hS2 => ?_, fun base => Mi.row_g M 8 42 (fun j y hy => Mi.all_g M 8 j y hy) rfl lk hcd hS hp hN hm base⟩
  refine ⟨fun _ => False, [.scr ns], [], .val (.bool true), [none], K91.plain ns 0, ?_, .nil, by simp, fun _ z => z.elim, fun v H2 F2 A2 C2 z => ?_⟩
  · simp only [Mi.ROL, Mi.RO]
    exact ⟨.ref a, [], [], [], rfl, ⟨a, rfl, hS2, rfl⟩, ⟨rfl, rfl⟩, rfl⟩
  · have z2 := z.ro
    simp only [Mi.RO, Mi.Rp] at z2
    exact z2.1
end
end Hd
open PySem PySem.W PySem.Calls PyProof.Rows
set_option maxRecDepth 100000 in
set_option maxHeartbeats 0 in
theorem PySem.Challenge.cw_payingpit_k91_whole_tables_and_lines_holds : PySem.Challenge.rw_payingpit_k91_whole_tables_and_lines.Holds := by
  w_on; o_law
  refine HandSHeadRun.head_any (r := OpenLaw.row PySem.Challenge.rw_payingpit_k91_whole_tables_and_lines) (q := view (OpenLaw.row PySem.Challenge.rw_payingpit_k91_whole_tables_and_lines).prog [57]) (H := Hd.hk) (ob := Hd.ob) (M := 3000) (loose := Hd.loose) (d := HandSHeadRun.topDef (OpenLaw.row PySem.Challenge.rw_payingpit_k91_whole_tables_and_lines).prog 57) (kwd := []) Hd.ob_eq
    (by kernel_rfl) (fun s => by kernel_rfl) Hd.run (by kernel_rfl) (by kernel_rfl) (by kernel_rfl) (by rfl) (by first | assumption | decide +kernel) (by decide +kernel) ⟨rfl, rfl, rfl, rfl, rfl, by decide +kernel⟩ ?hw ?hc
  case hw => w_witness2
  case hc =>
    refine MiF.walk_g (l := PySem.Challenge.rw_payingpit_k91_whole_tables_and_lines) (n := 63) (k := 9) (x := "script") rfl (by decide) (by kernel_rfl) ⟨rfl, by decide, by decide⟩ rfl ?F
    intro w mg fa h Y G hmg0
    obtain ⟨K, KX, c⟩ := Y
    have hmg : mg ("law" : PySem.Str) = some (.ref fa) := by
      have e : (HandSHeadRun.topDef (OpenLaw.row PySem.Challenge.rw_payingpit_k91_whole_tables_and_lines).prog 57).name = ("law" : PySem.Str) := by kernel_rfl
      rw [← e]
      exact hmg0
    obtain ⟨fd, sp, hb, hsp, hF⟩ := Hd.fin (w := w) (PySem.Challenge.rw_payingpit_k91_whole_tables_and_lines).prog KX G c hmg
    exact ⟨K, fd, sp, KX, hb, hsp, fun base _ _ => hF base⟩

end
