import PyProof.Rows.All
import Wide.All
import OpenK.AllK
import Wide.FinOn
import HandS.ForMost
import HandS.Flow
import HandS.TupAny
import KE.KDictKeyed
import HandS.TupMul
import HandS.Style
import HandS.IsInst
import HandS.Deep
import HandS.TupLe
import HandS.More
import HandS.SortInts
import HandS.WordsDict
import PyProof.SeqIndex
import HandS.TupSets
import KE.KDictDisplayH
import PyProof.Rows.TupDisplay
import HandS.Zip
import KE.GoesEnum
import HandS.Defaults
import HandS.Star
import HandS.Conv
import HandS.DictComp
import HandS.HeadEnd
import KE.KStateDown
import HandS.Ends
import HandS.Words
import HandS.WordsExc
import HandS.Head0
import HandS.Head1
import HandS.Head2
import HandS.HeadHook1
import HandS.HeadHook2
import PySem.Challenge.RW_alikeagain_k02_whole_ways
set_option Elab.async false
set_option linter.all false
set_option maxRecDepth 100000
set_option maxHeartbeats 0
/-! E1: a small syntax with slots, values, a heap of lists and dicts, one step of its evaluator. -/
namespace Ez
/-- closed data -/
inductive P where
  | non | bl (b : Bool) | int (i : Int) | str (s : List Nat) | tup (xs : List P) | lst (xs : List P)
  deriving Inhabited
/-- values: tuples are trees, lists and dicts stand in the heap by number; rp: the text that repr gives of data -/
inductive D where
  | non | bl (b : Bool) | int (i : Int) | str (s : List Nat) | tup (xs : List D) | ref (n : Nat) | rp (p : P) | ptp (xs : List D)
  deriving Inhabited
inductive O where
  | lst (xs : List D) | frz (xs : List D) | dK (kvs : List (D × D)) | dT (kvs : List (D × D))
  deriving Inhabited
abbrev Hh := List O
abbrev Sg := List (Option D)
def SL : Nat := 16777216
inductive BOp where | add | sub | mul | fdiv | mod | pow | shl
inductive COp where | eq | ne | lt | le | gt | ge | is | isn | inn | nin
inductive Ty where | int | bool | str | tuple | list | dict
/-- built-ins by values -/
inductive Bi where | len | all | any | int1 | list1 | tuple1 | max1 | min1 | max2 | min2 | sum1 | sorted1 | repr1
inductive Me where | append | extend | pop0 | pop1 | insert | index | get1 | get2
mutual
inductive CE where
  | var (i : Nat) | cst (d : D) | glb (d : D)
  | bin (op : BOp) (a b : CE) | neg (a : CE) | not_ (a : CE) | and_ (es : List CE) | or_ (es : List CE)
  | ite (c a b : CE) | cmp (op : COp) (a b : CE) | chn (o1 o2 : COp) (a b c : CE)
  | tup (es : List (Bool × CE)) | lst (es : List CE)
  | call (f : Nat) (es : List CE) | calk (f : Nat) (perm : List Nat) (es : List CE)
  | bi (b : Bi) (es : List CE) | isi (t : Ty) (a : CE) | lrg (a : CE)
  | met (m : Me) (o : CE) (es : List CE)
  | sub (a i : CE) | slc (a : CE) (lo hi : Option CE) | rev (a : CE)
  | lc (own : List Nat) (elt : CE) (tg : TG) (it : CI) (ifs : List CE)
  | dc (own : List Nat) (k v : CE) (tg : TG) (it : CI) (ifs : List CE)
  | dnk | dnt | dsk (ks : List (List Nat)) (es : List CE) | dst1 (k v : CE)
inductive CI where
  | ex (e : CE) | rg1 (a : CE) | rg2 (a b : CE) | rg3 (a b c : CE) | en (a : CE) | zp (a b : CE)
inductive TG where
  | nm (i : Nat) | tu (gs : List TG) | sb (o i : CE)
end
inductive CS where
  | ex (c : CE) | asg (g : TG) (c : CE) | par (is : List Nat) (cs : List CE) | aug (i : Nat) (op : BOp) (c : CE)
  | ret (c : CE) | retN | ife (c : CE) (a b : List CS) | whl (c : CE) (b : List CS) | for_ (g : TG) (it : CI) (b : List CS)
  | pas | brk | cnt | nev
structure Fn where
  np : Nat
  ns : Nat
  body : List CS
abbrev Tab := List Fn
/-- how a statement ends -/
inductive Fl where | nx | bk | ct | rt (d : D)
/-- what a loop walks: items that stay; a list of the heap from a place on; its pairs with numbers; two lists -/
inductive Src where
  | it (xs : List D) | dy (n i : Nat) | en (n i : Nat) | zp (n m i : Nat)
/-! ### by values -/
def getL (h : Hh) (n : Nat) : Option (List D) := match h[n]? with
  | some (.lst xs) => some xs
  | some (.frz xs) => some xs
  | _ => none
def getM (h : Hh) (n : Nat) : Option (List D) := match h[n]? with
  | some (.lst xs) => some xs
  | _ => none
def ixN (n : Nat) (i : Int) : Option Nat := if 0 ≤ i then (if i < n then some i.toNat else none) else if -(n : Int) ≤ i then some (i + n).toNat else none
def alloc (h : Hh) (o : O) : Option (D × Hh) := some (.ref h.length, h ++ [o])
def inW (i : Int) : Bool := Nat.ble i.natAbs 18446744073709551615
def rep (k : Nat) (xs : List D) : List D := (List.replicate k xs).flatten
def binop (op : BOp) (x y : D) (h : Hh) : Option (D × Hh) := match op with
  | .add => (match x, y with
    | .int i, .int j => some (.int (i + j), h)
    | .str s, .str t => if s.length + t.length ≤ SL then some (.str (s ++ t), h) else none
    | .tup xs, .tup ys => if xs.length + ys.length ≤ SL then some (.tup (xs ++ ys), h) else none
    | .ref n, .ref m => (getM h n).bind fun xs => (getM h m).bind fun ys => if xs.length + ys.length ≤ SL then alloc h (.lst (xs ++ ys)) else none
    | _, _ => none)
  | .sub => (match x, y with
    | .int i, .int j => some (.int (i - j), h)
    | _, _ => none)
  | .mul => (match x, y with
    | .int i, .int j => if inW i || inW j then some (.int (i * j), h) else none
    | .ref n, .int k => (getM h n).bind fun xs => if decide (-(2 ^ 63) ≤ k) && decide (k < 2 ^ 63) && decide (xs.length * k.toNat ≤ SL) then alloc h (.lst (rep k.toNat xs)) else none
    | _, _ => none)
  | .fdiv => (match x, y with
    | .int i, .int j => if decide (0 < j) && decide (j < 1073741824) then some (.int (i / j), h) else none
    | _, _ => none)
  | .mod => (match x, y with
    | .int i, .int j => if decide (0 < j) then some (.int (i % j), h) else none
    | _, _ => none)
  | .pow => (match x, y with
    | .int i, .int j => if decide (0 ≤ j) && decide (j ≤ 1000000) && decide (i.natAbs < 2 ^ 64) then some (.int (i ^ j.toNat), h) else none
    | _, _ => none)
  | .shl => (match x, y with
    | .int i, .int j => if decide (0 ≤ j) && decide (j ≤ 1000000) && decide (i.natAbs < 2 ^ 64) then some (.int (i * 2 ^ j.toNat), h) else none
    | _, _ => none)
/-- closed data, by depth -/
def mapO {α β : Type} (f : α → Option β) : List α → Option (List β)
  | [] => some []
  | x :: xs => (f x).bind fun y => (mapO f xs).bind fun ys => some (y :: ys)
def strOk (s : List Nat) : Bool := s.all fun c => decide (c < 128)
def toP (h : Hh) : Nat → D → Option P
  | 0, d => (match d with
    | .non => some .non
    | .bl b => some (.bl b)
    | .int i => some (.int i)
    | .str s => if strOk s then some (.str s) else none
    | _ => none)
  | n + 1, d => (match d with
    | .non => some .non
    | .bl b => some (.bl b)
    | .int i => some (.int i)
    | .str s => if strOk s then some (.str s) else none
    | .tup xs => (mapO (toP h n) xs).bind fun ps => some (.tup ps)
    | .ref k => (getL h k).bind fun xs => (mapO (toP h n) xs).bind fun ps => some (.lst ps)
    | .rp _ => none
    | .ptp _ => none)
def b2i (b : Bool) : Int := if b then 1 else 0
mutual
/-- == of data -/
def eqv : P → P → Bool
  | .non, .non => true
  | .bl a, .bl b => a == b
  | .bl a, .int j => b2i a == j
  | .int i, .bl b => i == b2i b
  | .int i, .int j => i == j
  | .str x, .str y => x == y
  | .tup xs, .tup ys => eqvs xs ys
  | .lst xs, .lst ys => eqvs xs ys
  | _, _ => false
def eqvs : List P → List P → Bool
  | [], [] => true
  | x :: xs, y :: ys => eqv x y && eqvs xs ys
  | _, _ => false
/-- the very same -/
def same : P → P → Bool
  | .non, .non => true
  | .bl a, .bl b => a == b
  | .int i, .int j => i == j
  | .str x, .str y => x == y
  | .tup xs, .tup ys => sames xs ys
  | .lst xs, .lst ys => sames xs ys
  | _, _ => false
def sames : List P → List P → Bool
  | [], [] => true
  | x :: xs, y :: ys => same x y && sames xs ys
  | _, _ => false
end
def DP : Nat := 40
mutual
def showP : P → Bool
  | .int i => decide (i.natAbs < 1000000000000)
  | .tup xs => showPs xs
  | .lst xs => showPs xs
  | _ => true
def showPs : List P → Bool
  | [] => true
  | x :: xs => showP x && showPs xs
def wtP : P → Nat
  | .int i => if i == 0 then 0 else i.natAbs.log2 + 1
  | .str s => s.length
  | .tup xs => wtPs xs
  | .lst xs => wtPs xs
  | _ => 0
def wtPs : List P → Nat
  | [] => 0
  | x :: xs => wtP x + 1 + wtPs xs
end
def eqD (h : Hh) (x y : D) : Option Bool := match x, y with
  | .int i, .int j => some (i == j)
  | .rp p, .rp q => if same p q then some true else none
  | x, y => (toP h DP x).bind fun p => (toP h DP y).bind fun q => some (eqv p q)
/-- the key of a dict -/
def keyK : D → Bool
  | .int _ => true
  | .str _ => true
  | _ => false
/-- a key of tuples, nested: None, ints, tuples of such -/
def keyN : Nat → D → Bool
  | 0, d => (match d with
    | .non => true
    | .int _ => true
    | _ => false)
  | n + 1, d => (match d with
    | .non => true
    | .int _ => true
    | .tup xs => xs.all (keyN n)
    | _ => false)
def keyT : D → Bool
  | .tup xs => xs.all (keyN 7)
  | _ => false
def keqK : D → D → Bool
  | .int i, .int j => i == j
  | .str s, .str t => s == t
  | _, _ => false
mutual
def keqT : D → D → Bool
  | .non, .non => true
  | .int i, .int j => i == j
  | .tup xs, .tup ys => keqs xs ys
  | _, _ => false
def keqs : List D → List D → Bool
  | [], [] => true
  | x :: xs, y :: ys => keqT x y && keqs xs ys
  | _, _ => false
end
def findV (eq : D → D → Bool) (k : D) : List (D × D) → Option D
  | [] => none
  | (k', v) :: r => if eq k' k then some v else findV eq k r
def putV (eq : D → D → Bool) (k v : D) (kvs : List (D × D)) : List (D × D) :=
  if (kvs.any fun p => eq p.1 k) = true then kvs.map (fun p => if eq p.1 k = true then (p.1, v) else p) else kvs ++ [(k, v)]
/-- what stands at a key: none: no dict, or no key that serves -/
def dget (h : Hh) (n : Nat) (k : D) : Option (Option D) := match h[n]? with
  | some (.dK kvs) => if keyK k then some (findV keqK k kvs) else none
  | some (.dT kvs) => if keyT k then some (findV keqT k kvs) else none
  | _ => none
def dput (h : Hh) (n : Nat) (k v : D) : Option Hh := match h[n]? with
  | some (.dK kvs) => if keyK k && decide (kvs.length < SL) then some (h.set n (.dK (putV keqK k v kvs))) else none
  | some (.dT kvs) => if keyT k && decide (kvs.length < SL) then some (h.set n (.dT (putV keqT k v kvs))) else none
  | _ => none
/-- flat things by == -/
def flat : D → Bool
  | .non => true | .bl _ => true | .int _ => true | .str _ => true
  | _ => false
def feq : D → D → Bool
  | .non, .non => true
  | .bl a, .bl b => a == b
  | .bl a, .int j => b2i a == j
  | .int i, .bl b => i == b2i b
  | .int i, .int j => i == j
  | .str x, .str y => x == y
  | _, _ => false
def isIn (h : Hh) (x y : D) : Option Bool := match y with
  | .tup xs => if flat x && xs.all flat then some (xs.any fun z => feq z x) else none
  | .ref n => (match h[n]? with
    | some (.lst xs) => if flat x && xs.all flat then some (xs.any fun z => feq z x)
        else (toP h DP x).bind fun p => (mapO (toP h DP) xs).bind fun ps => some (ps.any fun z => eqv z p)
    | some (.frz xs) => if flat x && xs.all flat then some (xs.any fun z => feq z x) else none
    | _ => (dget h n x).bind fun o => some o.isSome)
  | _ => none
def asInts : List D → Option (List Int)
  | [] => some []
  | .int i :: r => (asInts r).bind fun is => some (i :: is)
  | _ => none
def lexI : List Int → List Int → Bool
  | [], [] => false
  | [], _ :: _ => true
  | _ :: _, [] => false
  | x :: xs, y :: ys => if x = y then lexI xs ys else decide (x < y)
def cmpop (op : COp) (x y : D) (h : Hh) : Option Bool := match op with
  | .eq => eqD h x y
  | .ne => (eqD h x y).bind fun b => some (!b)
  | .lt => (match x, y with
    | .int i, .int j => some (decide (i < j))
    | .str s, .str t => some (decide (s < t))
    | .tup xs, .tup ys => (asInts xs).bind fun is => (asInts ys).bind fun js => some (lexI is js)
    | _, _ => none)
  | .le => (match x, y with
    | .int i, .int j => some (decide (i ≤ j))
    | _, _ => none)
  | .gt => (match x, y with
    | .int i, .int j => some (decide (j < i))
    | _, _ => none)
  | .ge => (match x, y with
    | .int i, .int j => some (decide (j ≤ i))
    | _, _ => none)
  | .is => (match x, y with
    | .non, .non => some true
    | .ref _, .non => some false
    | .tup _, .non => some false
    | .int _, .non => some false
    | .bl _, .non => some false
    | .str _, .non => some false
    | .bl a, .bl b => some (a == b)
    | _, _ => none)
  | .isn => (match x, y with
    | .non, .non => some false
    | .ref _, .non => some true
    | .tup _, .non => some true
    | .int _, .non => some true
    | .bl _, .non => some true
    | .str _, .non => some true
    | _, _ => none)
  | .inn => isIn h x y
  | .nin => (isIn h x y).bind fun b => some (!b)
/-- truth -/
def truth (h : Hh) : D → Option Bool
  | .non => some false
  | .bl b => some b
  | .int i => some (i != 0)
  | .str s => if s.length ≤ SL then some (!s.isEmpty) else none
  | .tup xs => some (!xs.isEmpty)
  | .ref n => (match h[n]? with
    | some (.lst xs) => some (!xs.isEmpty)
    | some (.frz xs) => some (!xs.isEmpty)
    | some (.dK kvs) => some (!kvs.isEmpty)
    | _ => none)
  | .rp _ => none
  | .ptp _ => none
def subscr (x i : D) (h : Hh) : Option D := match x, i with
  | .tup xs, .int i => (ixN xs.length i).bind fun j => xs[j]?
  | .str s, .int i => if s.length ≤ SL then (ixN s.length i).bind fun j => s[j]?.bind fun c => some (.str [c]) else none
  | .ref n, k => (match h[n]? with
    | some (.lst xs) => (match k with
      | .int i => (ixN xs.length i).bind fun j => xs[j]?
      | _ => none)
    | some (.frz xs) => (match k with
      | .int i => (ixN xs.length i).bind fun j => xs[j]?
      | _ => none)
    | _ => (dget h n k).bind fun o => o)
  | _, _ => none
/-- the ends of a slice -/
def sIx (n d : Nat) : Option Int → Nat
  | none => d
  | some i => if i < 0 then (i + n).toNat else min i.toNat n
def cut {α : Type} (xs : List α) (lo hi : Option Int) : List α := (xs.drop (sIx xs.length 0 lo)).take (sIx xs.length xs.length hi - sIx xs.length 0 lo)
def slice (x : D) (lo hi : Option Int) (h : Hh) : Option (D × Hh) := match x with
  | .tup xs => some (.tup (cut xs lo hi), h)
  | .str s => if s.length ≤ SL then some (.str (cut s lo hi), h) else none
  | .ref n => (getL h n).bind fun xs => alloc h (.lst (cut xs lo hi))
  | _ => none
def seqOf (h : Hh) : D → Option (List D)
  | .tup xs => some xs
  | .ref n => getL h n
  | _ => none
def asBools : List D → Option (List Bool)
  | [] => some []
  | .bl b :: r => (asBools r).bind fun bs => some (b :: bs)
  | _ => none
def maxI : Int → List Int → Int
  | m, [] => m
  | m, x :: r => maxI (if m < x then x else m) r
def minI : Int → List Int → Int
  | m, [] => m
  | m, x :: r => minI (if x < m then x else m) r
def insI (x : Int) : List Int → List Int
  | [] => [x]
  | y :: r => if x ≤ y then x :: y :: r else y :: insI x r
def sortI : List Int → List Int
  | [] => []
  | x :: r => insI x (sortI r)
/-- tuples of ints -/
def asTup : D → Option (List Int)
  | .tup xs => asInts xs
  | _ => none
def insT (x : List Int) : List (List Int) → List (List Int)
  | [] => [x]
  | y :: r => if lexI y x then y :: insT x r else x :: y :: r
def sortT : List (List Int) → List (List Int)
  | [] => []
  | x :: r => insT x (sortT r)
def ofInts (is : List Int) : List D := is.map D.int
def sameLen (n : Nat) (l : List (List Int)) : Bool := l.all fun t => t.length == n && t.all fun i => decide (0 ≤ i) && decide (i < 1000000)
def sorted (xs : List D) : Option (List D) := match asInts xs with
  | some is => some ((sortI is).map D.int)
  | none => (mapO asTup xs).bind fun ts => (match ts with
    | [] => none
    | t :: _ => if decide (ts.length < 64) && decide (1 ≤ t.length) && sameLen t.length ts then some ((sortT ts).map fun u => .tup (ofInts u)) else none)
def bi (b : Bi) (as : List D) (h : Hh) : Option (D × Hh) := match b, as with
  | .len, [x] => (match x with
    | .str s => if s.length ≤ SL then some (.int s.length, h) else none
    | .tup xs => some (.int xs.length, h)
    | .ref n => (match h[n]? with
      | some (.lst xs) => some (.int xs.length, h)
      | some (.frz xs) => some (.int xs.length, h)
      | some (.dK kvs) => some (.int kvs.length, h)
      | _ => none)
    | _ => none)
  | .all, [.ref n] => (getL h n).bind fun xs => (asBools xs).bind fun bs => some (.bl (bs.all id), h)
  | .any, [.ref n] => (getL h n).bind fun xs => (asBools xs).bind fun bs => some (.bl (bs.any id), h)
  | .int1, [x] => (match x with
    | .int i => some (.int i, h)
    | .bl b => some (.int (b2i b), h)
    | _ => none)
  | .list1, [x] => (seqOf h x).bind fun xs => alloc h (.lst xs)
  | .tuple1, [x] => (seqOf h x).bind fun xs => some (.tup xs, h)
  | .max1, [.ref n] => (getL h n).bind fun xs => (asInts xs).bind fun is => (match is with
    | [] => none
    | i :: r => some (.int (maxI i r), h))
  | .min1, [.ref n] => (getL h n).bind fun xs => (asInts xs).bind fun is => (match is with
    | [] => none
    | i :: r => some (.int (minI i r), h))
  | .max2, [.int i, .int j] => some (.int (if j > i then j else i), h)
  | .min2, [.int i, .int j] => some (.int (if j < i then j else i), h)
  | .sum1, [.ref n] => (getL h n).bind fun xs => (asInts xs).bind fun is => some (.int is.sum, h)
  | .sorted1, [.ref n] => (getL h n).bind fun xs => (sorted xs).bind fun ys => alloc h (.lst ys)
  | .repr1, [x] => (toP h DP x).bind fun p => if showP p && decide (wtP p ≤ 1048576) then some (.rp p, h) else none
  | _, _ => none
def isTy (h : Hh) (t : Ty) (x : D) : Option Bool := match x with
  | .non => some false
  | .bl _ => some (match t with | .bool => true | .int => true | _ => false)
  | .int _ => some (match t with | .int => true | _ => false)
  | .str _ => some (match t with | .str => true | _ => false)
  | .tup _ => some (match t with | .tuple => true | _ => false)
  | .ref n => (match h[n]? with
    | some (.lst _) => some (match t with | .list => true | _ => false)
    | some (.dK _) => some (match t with | .dict => true | _ => false)
    | _ => none)
  | .rp _ => none
  | .ptp _ => none
/-- the receiver of a method -/
inductive Rt where | list | dict | tuple
def rcv (h : Hh) : D → Option Rt
  | .ref n => (match h[n]? with
    | some (.lst _) => some .list
    | some (.frz _) => some .list
    | some (.dK _) => some .dict
    | some (.dT _) => some .dict
    | none => none)
  | .tup _ => some .tuple
  | _ => none
def metT (m : Me) (xs : List D) (as : List D) (h : Hh) : Option (D × Hh) := match m with
  | .index => (match as with
    | [.int k] => (asInts xs).bind fun is => if is.contains k then some (.int (is.idxOf k : Nat), h) else none
    | _ => none)
  | _ => none
def metL (m : Me) (n : Nat) (as : List D) (h : Hh) : Option (D × Hh) := match m with
  | .append => (match as with
    | [y] => (getM h n).bind fun xs => if decide (xs.length < SL) then some (.non, h.set n (.lst (xs ++ [y]))) else none
    | _ => none)
  | .extend => (match as with
    | [.ref b] => (getM h n).bind fun xs => (getM h b).bind fun ys => if decide (xs.length + ys.length ≤ SL) then some (.non, h.set n (.lst (xs ++ ys))) else none
    | _ => none)
  | .pop0 => (match as with
    | [] => (getM h n).bind fun xs => xs[xs.length - 1]?.bind fun y => some (y, h.set n (.lst xs.dropLast))
    | _ => none)
  | .pop1 => (match as with
    | [.int i] => (getM h n).bind fun xs => if decide (0 ≤ i) && decide (i < 1000000) then xs[i.toNat]?.bind fun y => some (y, h.set n (.lst (xs.eraseIdx i.toNat))) else none
    | _ => none)
  | .insert => (match as with
    | [.int i, y] => (getM h n).bind fun xs => if decide (0 ≤ i) && decide (i < 1000000) && decide (xs.length < SL) then some (.non, h.set n (.lst (xs.take i.toNat ++ [y] ++ xs.drop i.toNat))) else none
    | _ => none)
  | .index => (match as with
    | [.int k] => (getL h n).bind fun xs => (asInts xs).bind fun is => if is.contains k then some (.int (is.idxOf k : Nat), h) else none
    | _ => none)
  | _ => none
def metD (m : Me) (n : Nat) (as : List D) (h : Hh) : Option (D × Hh) := match m with
  | .get1 => (match as with
    | [k] => (dget h n k).bind fun o => some (o.getD .non, h)
    | _ => none)
  | .get2 => (match as with
    | [k, d] => (dget h n k).bind fun o => some (o.getD d, h)
    | _ => none)
  | _ => none
def met (rt : Rt) (m : Me) (o : D) (as : List D) (h : Hh) : Option (D × Hh) := match rt with
  | .list => (match o with
    | .ref n => metL m n as h
    | _ => none)
  | .dict => (match o with
    | .ref n => metD m n as h
    | _ => none)
  | .tuple => (match o with
    | .tup xs => metT m xs as h
    | _ => none)
/-- a value stored at a place -/
def store (o i v : D) (h : Hh) : Option Hh := match o with
  | .ref n => (match h[n]? with
    | some (.lst xs) => (match i with
      | .int i => (ixN xs.length i).bind fun j => some (h.set n (.lst (xs.set j v)))
      | _ => none)
    | _ => dput h n i v)
  | _ => none
def dputK (h : Hh) (n : Nat) (k v : D) : Option Hh := match h[n]? with
  | some (.dK _) => dput h n k v
  | _ => none
def rngs (a : Int) : Nat → List D
  | 0 => []
  | n + 1 => .int a :: rngs (a + 1) n
def rngc (a c : Int) : Nat → List D
  | 0 => []
  | n + 1 => .int a :: rngc (a + c) c n
def numb (i : Nat) : List D → List D
  | [] => []
  | x :: r => .ptp [.int (i : Nat), x] :: numb (i + 1) r
def zips : List D → List D → List D
  | x :: xs, y :: ys => .ptp [x, y] :: zips xs ys
  | _, _ => []
def signs (s : List Nat) : List D := s.map fun c => .str [c]
def inR (i : Int) : Bool := Nat.ble i.natAbs 4611686018427387903
def srcOf (h : Hh) : D → Option Src
  | .tup xs => some (.it xs)
  | .str s => some (.it (signs s))
  | .ref n => (getL h n).bind fun _ => some (.dy n 0)
  | _ => none
def srcEn (h : Hh) : D → Option Src
  | .tup xs => some (.it (numb 0 xs))
  | .ref n => (getL h n).bind fun _ => some (.en n 0)
  | _ => none
def srcZp (h : Hh) (x y : D) : Option Src := match x, y with
  | .tup xs, .tup ys => some (.it (zips xs ys))
  | .ref n, .ref m => (getL h n).bind fun _ => (getL h m).bind fun _ => some (.zp n m 0)
  | _, _ => none
/-- the next item: none: stuck; some none: the end -/
def next (h : Hh) : Src → Option (Option (D × Src))
  | .it [] => some none
  | .it (x :: r) => some (some (x, .it r))
  | .dy n i => (getL h n).bind fun xs => (match xs[i]? with
    | some x => some (some (x, .dy n (i + 1)))
    | none => some none)
  | .en n i => (getL h n).bind fun xs => (match xs[i]? with
    | some x => some (some (.ptp [.int (i : Nat), x], .en n (i + 1)))
    | none => some none)
  | .zp n m i => (getL h n).bind fun xs => (getL h m).bind fun ys => (match xs[i]?, ys[i]? with
    | some x, some y => some (some (.ptp [x, y], .zp n m (i + 1)))
    | _, _ => some none)
def permute (as : List D) : List Nat → Option (List D)
  | [] => some []
  | i :: r => as[i]?.bind fun x => (permute as r).bind fun xs => some (x :: xs)
/-! ### what is left behind a call whose arguments name no object -/
mutual
def refs : D → List Nat
  | .ref n => [n]
  | .tup xs => refss xs
  | .ptp xs => refss xs
  | _ => []
def refss : List D → List Nat
  | [] => []
  | x :: xs => refs x ++ refss xs
def noref : D → Bool
  | .ref _ => false
  | .ptp _ => false
  | .tup xs => norefs xs
  | _ => true
def norefs : List D → Bool
  | [] => true
  | x :: xs => noref x && norefs xs
end
def pos (n : Nat) : List Nat → Nat → Option Nat
  | [], _ => none
  | k :: r, i => if k == n then some i else pos n r (i + 1)
mutual
/-- the objects' numbers anew: those of ks, from b on -/
def ren (ks : List Nat) (b : Nat) : D → Option D
  | .ref n => (pos n ks b).bind fun i => some (.ref i)
  | .tup xs => (rens ks b xs).bind fun ys => some (.tup ys)
  | .non => some .non
  | .bl x => some (.bl x)
  | .int i => some (.int i)
  | .str s => some (.str s)
  | .rp p => some (.rp p)
  | .ptp _ => none
def rens (ks : List Nat) (b : Nat) : List D → Option (List D)
  | [] => some []
  | x :: xs => (ren ks b x).bind fun y => (rens ks b xs).bind fun ys => some (y :: ys)
end
def renO (ks : List Nat) (b : Nat) : O → Option O
  | .lst xs => (rens ks b xs).bind fun ys => some (.lst ys)
  | .frz _ => none
  | .dK kvs => (rens ks b (kvs.map (·.2))).bind fun ys => some (.dK ((kvs.map (·.1)).zip ys))
  | .dT kvs => (rens ks b (kvs.map (·.2))).bind fun ys => some (.dT ((kvs.map (·.1)).zip ys))
def refsO : O → List Nat
  | .lst xs => refss xs
  | .frz xs => refss xs
  | .dK kvs => refss (kvs.map (·.2))
  | .dT kvs => refss (kvs.map (·.2))
/-- the objects that are reached, each once, in order -/
def reach (h : Hh) : Nat → List Nat → List Nat → List Nat
  | 0, _, done => done
  | _ + 1, [], done => done
  | f + 1, n :: todo, done => if done.contains n then reach h f todo done else reach h f ((match h[n]? with
    | some o => refsO o
    | none => []) ++ todo) (done ++ [n])
def kept (h : Hh) (d : D) (b : Nat) : Option (D × Hh) :=
  let ks := reach h 100000 (refs d) []
  (ren ks b d).bind fun d' => (mapO (fun n => h[n]?.bind (renO ks b)) ks).bind fun os => some (d', os)
/-! ### the step -/
inductive Kd where | e | es | sp | t | ts | ci | g | gs | s | ss | wh | fo | lc | dc | ca
abbrev In : Kd → Type
  | .e => Nat × CE × Sg × Hh
  | .es => Nat × List CE × Sg × Hh
  | .sp => Nat × List (Bool × CE) × Sg × Hh
  | .t => Nat × CE × Sg × Hh
  | .ts => Nat × List CE × Sg × Hh
  | .ci => Nat × CI × Sg × Hh
  | .g => Nat × TG × D × Sg × Hh
  | .gs => Nat × List TG × List D × Sg × Hh
  | .s => Nat × CS × Sg × Hh
  | .ss => Nat × List CS × Sg × Hh
  | .wh => Nat × CE × List CS × Sg × Hh
  | .fo => Nat × TG × List CS × Src × Sg × Hh
  | .lc => Nat × CE × TG × List CE × Src × Nat × Sg × Hh
  | .dc => Nat × CE × CE × TG × List CE × Src × Nat × Sg × Hh
  | .ca => Nat × Nat × List D × Hh
abbrev Out : Kd → Type
  | .e => D × Hh
  | .es => List D × Hh
  | .sp => List D × Hh
  | .t => Bool × Hh
  | .ts => Bool × Hh
  | .ci => Src × Hh
  | .g => Sg × Hh
  | .gs => Sg × Hh
  | .s => Fl × Sg × Hh
  | .ss => Fl × Sg × Hh
  | .wh => Fl × Sg × Hh
  | .fo => Fl × Sg × Hh
  | .lc => Hh
  | .dc => Hh
  | .ca => D × Hh
abbrev Ev := (k : Kd) → In k → Option (Out k)
def wipe (σ : Sg) : List Nat → Sg
  | [] => σ
  | v :: vs => (wipe σ vs).set v none
def start (ns : Nat) (as : List D) : Sg := as.map some ++ List.replicate (ns - as.length) none
/-- a call: of arguments that name no object it is run by itself -/
def docall (r : Ev) (l f : Nat) (as : List D) (h : Hh) : Option (D × Hh) :=
  if norefs as then (r .ca (l, f, as, [])).bind fun p => (kept p.2 p.1 h.length).bind fun q => some (q.1, h ++ q.2)
  else r .ca (l, f, as, h)
def asInt : D → Option Int
  | .int i => some i
  | _ => none
def stepE (r : Ev) (l : Nat) (c : CE) (σ : Sg) (h : Hh) : Option (D × Hh) := match c with
  | .var i => (σ[i]?).bind fun o => o.bind fun d => some (d, h)
  | .cst d => some (d, h)
  | .glb d => some (d, h)
  | .bin op a b => (r .e (l, a, σ, h)).bind fun p => (r .e (l, b, σ, p.2)).bind fun q => binop op p.1 q.1 q.2
  | .neg a => (r .e (l, a, σ, h)).bind fun p => (asInt p.1).bind fun i => some (.int (-i), p.2)
  | .not_ a => (r .e (l, a, σ, h)).bind fun p => (truth p.2 p.1).bind fun k => some (.bl (!k), p.2)
  | .and_ es => (match es with
    | [] => none
    | [a] => r .e (l, a, σ, h)
    | a :: b :: t => (r .e (l, a, σ, h)).bind fun p => (match p.1 with
      | .bl true => r .e (l, .and_ (b :: t), σ, p.2)
      | .bl false => some (.bl false, p.2)
      | _ => none))
  | .or_ es => (match es with
    | [] => none
    | [a] => r .e (l, a, σ, h)
    | a :: b :: t => (r .e (l, a, σ, h)).bind fun p => (match p.1 with
      | .bl false => r .e (l, .or_ (b :: t), σ, p.2)
      | .bl true => some (.bl true, p.2)
      | _ => none))
  | .ite c a b => (r .t (l, c, σ, h)).bind fun p => if p.1 = true then r .e (l, a, σ, p.2) else r .e (l, b, σ, p.2)
  | .cmp op a b => (r .e (l, a, σ, h)).bind fun p => (r .e (l, b, σ, p.2)).bind fun q => (cmpop op p.1 q.1 q.2).bind fun k => some (.bl k, q.2)
  | .chn o1 o2 a b c => (r .e (l, a, σ, h)).bind fun p => (r .e (l, b, σ, p.2)).bind fun q => (cmpop o1 p.1 q.1 q.2).bind fun k =>
      if k = true then (r .e (l, c, σ, q.2)).bind fun u => (cmpop o2 q.1 u.1 u.2).bind fun k2 => some (.bl k2, u.2) else some (.bl false, q.2)
  | .tup es => (r .sp (l, es, σ, h)).bind fun p => if p.1.length ≤ SL then some (.tup p.1, p.2) else none
  | .lst es => (r .es (l, es, σ, h)).bind fun p => if p.1.length ≤ SL then alloc p.2 (.lst p.1) else none
  | .call f es => (r .es (l, es, σ, h)).bind fun p => (match l with
    | 0 => none
    | l + 1 => docall r l f p.1 p.2)
  | .calk f perm es => (r .es (l, es, σ, h)).bind fun p => (permute p.1 perm).bind fun as => (match l with
    | 0 => none
    | l + 1 => docall r l f as p.2)
  | .bi b es => (r .es (l, es, σ, h)).bind fun p => bi b p.1 p.2
  | .isi t a => (r .e (l, a, σ, h)).bind fun p => (isTy p.2 t p.1).bind fun k => some (.bl k, p.2)
  | .lrg a => (r .e (l, a, σ, h)).bind fun p => (asInt p.1).bind fun i => if decide (i.toNat ≤ SL) && inR i then alloc p.2 (.lst (rngs 0 i.toNat)) else none
  | .met m o es => (r .e (l, o, σ, h)).bind fun p => (rcv p.2 p.1).bind fun rt => (r .es (l, es, σ, p.2)).bind fun q => met rt m p.1 q.1 q.2
  | .sub a i => (r .e (l, a, σ, h)).bind fun p => (r .e (l, i, σ, p.2)).bind fun q => (subscr p.1 q.1 q.2).bind fun d => some (d, q.2)
  | .slc a lo hi => (r .e (l, a, σ, h)).bind fun p => (match lo, hi with
    | none, none => slice p.1 none none p.2
    | some x, none => (r .e (l, x, σ, p.2)).bind fun q => (asInt q.1).bind fun i => slice p.1 (some i) none q.2
    | none, some y => (r .e (l, y, σ, p.2)).bind fun q => (asInt q.1).bind fun i => slice p.1 none (some i) q.2
    | some x, some y => (r .e (l, x, σ, p.2)).bind fun q => (asInt q.1).bind fun i => (r .e (l, y, σ, q.2)).bind fun u => (asInt u.1).bind fun j => slice p.1 (some i) (some j) u.2)
  | .rev a => (r .e (l, a, σ, h)).bind fun p => (match p.1 with
    | .ref n => (getL p.2 n).bind fun xs => alloc p.2 (.lst xs.reverse)
    | .tup xs => some (.tup xs.reverse, p.2)
    | _ => none)
  | .lc own elt tg it ifs => (r .ci (l, it, σ, h)).bind fun p => (r .lc (l, elt, tg, ifs, p.1, p.2.length, wipe σ own, p.2 ++ [.lst []])).bind fun h2 => some (.ref p.2.length, h2)
  | .dc own k v tg it ifs => (r .ci (l, it, σ, h)).bind fun p => (r .dc (l, k, v, tg, ifs, p.1, p.2.length, wipe σ own, p.2 ++ [.dK []])).bind fun h2 => some (.ref p.2.length, h2)
  | .dnk => alloc h (.dK [])
  | .dnt => alloc h (.dT [])
  | .dsk ks es => (r .es (l, es, σ, h)).bind fun p => if decide (ks.length ≤ 15) && decide (p.1.length = ks.length) then alloc p.2 (.dK ((ks.map D.str).zip p.1)) else none
  | .dst1 k v => (r .e (l, k, σ, h)).bind fun p => (r .e (l, v, σ, p.2)).bind fun q => if keyT p.1 then alloc q.2 (.dT [(p.1, q.1)]) else none
def step (T : Tab) (r : Ev) : Ev
  | .e, x => stepE r x.1 x.2.1 x.2.2.1 x.2.2.2
  | .es, (l, es, σ, h) => (match es with
    | [] => some ([], h)
    | a :: t => (r .e (l, a, σ, h)).bind fun p => (r .es (l, t, σ, p.2)).bind fun q => some (p.1 :: q.1, q.2))
  | .sp, (l, es, σ, h) => (match es with
    | [] => some ([], h)
    | (false, a) :: t => (r .e (l, a, σ, h)).bind fun p => (r .sp (l, t, σ, p.2)).bind fun q => some (p.1 :: q.1, q.2)
    | (true, a) :: t => (r .e (l, a, σ, h)).bind fun p => (seqOf p.2 p.1).bind fun xs => (r .sp (l, t, σ, p.2)).bind fun q => some (xs ++ q.1, q.2))
  | .t, (l, c, σ, h) => (match c with
    | .not_ a => (r .t (l, a, σ, h)).bind fun p => some (!p.1, p.2)
    | .and_ es => (match es with
      | [] => none
      | [a] => r .t (l, a, σ, h)
      | a :: b :: t => (r .t (l, a, σ, h)).bind fun p => if p.1 = true then r .t (l, .and_ (b :: t), σ, p.2) else some (false, p.2))
    | .or_ es => (match es with
      | [] => none
      | [a] => r .t (l, a, σ, h)
      | a :: b :: t => (r .t (l, a, σ, h)).bind fun p => if p.1 = true then some (true, p.2) else r .t (l, .or_ (b :: t), σ, p.2))
    | c => (r .e (l, c, σ, h)).bind fun p => (truth p.2 p.1).bind fun k => some (k, p.2))
  | .ts, (l, cs, σ, h) => (match cs with
    | [] => some (true, h)
    | [c] => r .t (l, c, σ, h)
    | _ => none)
  | .ci, (l, c, σ, h) => (match c with
    | .ex a => (r .e (l, a, σ, h)).bind fun p => (srcOf p.2 p.1).bind fun s => some (s, p.2)
    | .rg1 a => (r .e (l, a, σ, h)).bind fun p => (asInt p.1).bind fun i => if inR i then some (.it (rngs 0 i.toNat), p.2) else none
    | .rg2 a b => (r .e (l, a, σ, h)).bind fun p => (r .e (l, b, σ, p.2)).bind fun q => (asInt p.1).bind fun i => (asInt q.1).bind fun j =>
        if inR i && inR j then some (.it (rngs i (j - i).toNat), q.2) else none
    | .rg3 a b c => (r .e (l, a, σ, h)).bind fun p => (r .e (l, b, σ, p.2)).bind fun q => (r .e (l, c, σ, q.2)).bind fun u => (asInt p.1).bind fun i => (asInt q.1).bind fun j => (asInt u.1).bind fun k =>
        if inR i && inR j && decide (k = -1) then some (.it (rngc i (-1) (i - j).toNat), u.2) else none
    | .en a => (r .e (l, a, σ, h)).bind fun p => (srcEn p.2 p.1).bind fun s => some (s, p.2)
    | .zp a b => (r .e (l, a, σ, h)).bind fun p => (r .e (l, b, σ, p.2)).bind fun q => (srcZp q.2 p.1 q.1).bind fun s => some (s, q.2))
  | .g, (l, t, v, σ, h) => (match t with
    | .nm i => some (σ.set i (some v), h)
    | .tu gs => (match v with
      | .tup xs => if xs.length = gs.length then r .gs (l, gs, xs, σ, h) else none
      | .ptp xs => if xs.length = gs.length then r .gs (l, gs, xs, σ, h) else none
      | _ => none)
    | .sb o i => (r .e (l, o, σ, h)).bind fun p => (r .e (l, i, σ, p.2)).bind fun q => (store p.1 q.1 v q.2).bind fun h2 => some (σ, h2))
  | .gs, (l, ts, vs, σ, h) => (match ts, vs with
    | [], [] => some (σ, h)
    | t :: ts, v :: vs => (r .g (l, t, v, σ, h)).bind fun p => r .gs (l, ts, vs, p.1, p.2)
    | _, _ => none)
  | .s, (l, c, σ, h) => (match c with
    | .ex c => (r .e (l, c, σ, h)).bind fun p => some (.nx, σ, p.2)
    | .asg g c => (r .e (l, c, σ, h)).bind fun p => (r .g (l, g, p.1, σ, p.2)).bind fun q => some (.nx, q.1, q.2)
    | .par is cs => (r .es (l, cs, σ, h)).bind fun p => (match is, p.1 with
      | [i, j], [v, w] => some (.nx, (σ.set i (some v)).set j (some w), p.2)
      | [i, j, k], [v, w, u] => some (.nx, ((σ.set i (some v)).set j (some w)).set k (some u), p.2)
      | _, _ => none)
    | .aug i op c => (σ[i]?).bind fun o => o.bind fun x => (r .e (l, c, σ, h)).bind fun p => (match x, p.1 with
      | .int a, .int b => (binop op (.int a) (.int b) p.2).bind fun q => some (.nx, σ.set i (some q.1), p.2)
      | _, _ => none)
    | .ret c => (r .e (l, c, σ, h)).bind fun p => some (.rt p.1, σ, p.2)
    | .retN => some (.rt .non, σ, h)
    | .ife c a b => (r .t (l, c, σ, h)).bind fun p => if p.1 = true then r .ss (l, a, σ, p.2) else r .ss (l, b, σ, p.2)
    | .whl c b => r .wh (l, c, b, σ, h)
    | .for_ g it b => (r .ci (l, it, σ, h)).bind fun p => r .fo (l, g, b, p.1, σ, p.2)
    | .pas => some (.nx, σ, h)
    | .brk => some (.bk, σ, h)
    | .cnt => some (.ct, σ, h)
    | .nev => none)
  | .ss, (l, cs, σ, h) => (match cs with
    | [] => some (.nx, σ, h)
    | c :: t => (r .s (l, c, σ, h)).bind fun p => (match p.1 with
      | .nx => r .ss (l, t, p.2.1, p.2.2)
      | f => some (f, p.2.1, p.2.2)))
  | .wh, (l, c, b, σ, h) => (r .t (l, c, σ, h)).bind fun p => if p.1 = true then (r .ss (l, b, σ, p.2)).bind fun q => (match q.1 with
      | .nx => r .wh (l, c, b, q.2.1, q.2.2)
      | .ct => r .wh (l, c, b, q.2.1, q.2.2)
      | .bk => some (.nx, q.2.1, q.2.2)
      | .rt d => some (.rt d, q.2.1, q.2.2)) else some (.nx, σ, p.2)
  | .fo, (l, g, b, src, σ, h) => (next h src).bind fun o => (match o with
    | none => some (.nx, σ, h)
    | some x => (r .g (l, g, x.1, σ, h)).bind fun p => (r .ss (l, b, p.1, p.2)).bind fun q => (match q.1 with
      | .nx => r .fo (l, g, b, x.2, q.2.1, q.2.2)
      | .ct => r .fo (l, g, b, x.2, q.2.1, q.2.2)
      | .bk => some (.nx, q.2.1, q.2.2)
      | .rt d => some (.rt d, q.2.1, q.2.2)))
  | .lc, (l, elt, g, ifs, src, n, σ, h) => (next h src).bind fun o => (match o with
    | none => some h
    | some x => (r .g (l, g, x.1, σ, h)).bind fun p => (r .ts (l, ifs, p.1, p.2)).bind fun q => if q.1 = true then (r .e (l, elt, p.1, q.2)).bind fun u =>
        (getM u.2 n).bind fun acc => if acc.length < SL then r .lc (l, elt, g, ifs, x.2, n, σ, u.2.set n (.lst (acc ++ [u.1]))) else none
      else r .lc (l, elt, g, ifs, x.2, n, σ, q.2))
  | .dc, (l, k, v, g, ifs, src, n, σ, h) => (next h src).bind fun o => (match o with
    | none => some h
    | some x => (r .g (l, g, x.1, σ, h)).bind fun p => (r .ts (l, ifs, p.1, p.2)).bind fun q => if q.1 = true then (r .e (l, k, p.1, q.2)).bind fun u => (r .e (l, v, p.1, u.2)).bind fun z =>
        (dputK z.2 n u.1 z.1).bind fun h2 => r .dc (l, k, v, g, ifs, x.2, n, σ, h2)
      else r .dc (l, k, v, g, ifs, x.2, n, σ, q.2))
  | .ca, (l, f, as, h) => (T[f]?).bind fun F => if as.length = F.np then (r .ss (l, F.body, start F.ns as, h)).bind fun p => (match p.1 with
      | .nx => some (.non, p.2.2)
      | .rt d => some (d, p.2.2)
      | _ => none) else none
/-- with so much fuel -/
def evs (T : Tab) : Nat → Ev
  | 0 => fun _ _ => none
  | n + 1 => step T (evs T n)
end Ez

/-! E7: more fuel -/
namespace Ez
/-- r' tells all that r tells -/
def Le (r r' : Ev) : Prop := ∀ (k : Kd) (x : In k) (y : Out k), r k x = some y → r' k x = some y
theorem bindLe {α β : Type} {o o' : Option α} {f f' : α → Option β} (h1 : ∀ a, o = some a → o' = some a) (h2 : ∀ a b, f a = some b → f' a = some b) : ∀ b, o.bind f = some b → o'.bind f' = some b := by
  intro b h
  cases o with
  | none => cases h
  | some a => rw [h1 a rfl]; exact h2 a b h
theorem refLe {α : Type} {o : Option α} : ∀ a, o = some a → o = some a := fun _ h => h
theorem iteLe {α : Type} {c : Prop} [Decidable c] {a b a' b' : Option α} (h1 : ∀ x, a = some x → a' = some x) (h2 : ∀ x, b = some x → b' = some x) : ∀ x, (if c then a else b) = some x → (if c then a' else b') = some x := by
  intro x h
  split at h
  · rw [if_pos ‹_›]; exact h1 x h
  · rw [if_neg ‹_›]; exact h2 x h
section
variable {r r' : Ev} (L : Le r r')
include L
theorem docallLe (l f : Nat) (as : List D) (h : Hh) : ∀ y, docall r l f as h = some y → docall r' l f as h = some y := by
  unfold docall
  exact iteLe (bindLe (L .ca _) fun _ _ => refLe _) (L .ca _)
theorem stepELe (l : Nat) (c : CE) (σ : Sg) (h : Hh) : ∀ y, stepE r l c σ h = some y → stepE r' l c σ h = some y := by
  unfold stepE
  cases c with
  | and_ es =>
    cases es with
    | nil => exact refLe
    | cons a t =>
      cases t with
      | nil => exact L .e _
      | cons b t =>
        refine bindLe (L .e _) fun p y => ?_
        split
        · exact L .e _ y
        · exact refLe y
        · exact refLe y
  | or_ es =>
    cases es with
    | nil => exact refLe
    | cons a t =>
      cases t with
      | nil => exact L .e _
      | cons b t =>
        refine bindLe (L .e _) fun p y => ?_
        split
        · exact L .e _ y
        · exact refLe y
        · exact refLe y
  | call f es =>
    refine bindLe (L .es _) fun p y => ?_
    cases l with
    | zero => exact refLe y
    | succ l => exact docallLe L l f p.1 p.2 y
  | calk f perm es =>
    refine bindLe (L .es _) fun p => bindLe refLe fun as y => ?_
    cases l with
    | zero => exact refLe y
    | succ l => exact docallLe L l f as p.2 y
  | slc a lo hi =>
    refine bindLe (L .e _) fun p => ?_
    cases lo <;> cases hi
    · exact fun y => refLe y
    · exact bindLe (L .e _) fun _ => refLe
    · exact bindLe (L .e _) fun _ => refLe
    · exact bindLe (L .e _) fun _ => bindLe refLe fun _ => bindLe (L .e _) fun _ => refLe
  | rev a =>
    exact bindLe (L .e _) fun _ => refLe
  | var i => exact refLe
  | cst d => exact refLe
  | glb d => exact refLe
  | bin op a b => exact bindLe (L .e _) fun _ => bindLe (L .e _) fun _ => refLe
  | neg a => exact bindLe (L .e _) fun _ => refLe
  | not_ a => exact bindLe (L .e _) fun _ => refLe
  | ite c a b => exact bindLe (L .t _) fun _ => iteLe (L .e _) (L .e _)
  | cmp op a b => exact bindLe (L .e _) fun _ => bindLe (L .e _) fun _ => refLe
  | chn o1 o2 a b d => exact bindLe (L .e _) fun _ => bindLe (L .e _) fun _ => bindLe refLe fun _ => iteLe (bindLe (L .e _) fun _ => refLe) refLe
  | tup es => exact bindLe (L .sp _) fun _ => refLe
  | lst es => exact bindLe (L .es _) fun _ => refLe
  | bi b es => exact bindLe (L .es _) fun _ => refLe
  | isi t a => exact bindLe (L .e _) fun _ => refLe
  | lrg a => exact bindLe (L .e _) fun _ => refLe
  | met m o es => exact bindLe (L .e _) fun _ => bindLe refLe fun _ => bindLe (L .es _) fun _ => refLe
  | sub a i => exact bindLe (L .e _) fun _ => bindLe (L .e _) fun _ => refLe
  | lc own elt tg it ifs => exact bindLe (L .ci _) fun _ => bindLe (L .lc _) fun _ => refLe
  | dc own k v tg it ifs => exact bindLe (L .ci _) fun _ => bindLe (L .dc _) fun _ => refLe
  | dnk => exact refLe
  | dnt => exact refLe
  | dsk ks es => exact bindLe (L .es _) fun _ => refLe
  | dst1 k v => exact bindLe (L .e _) fun _ => bindLe (L .e _) fun _ => refLe
theorem stepLe (T : Tab) : Le (step T r) (step T r') := by
  intro k x
  cases k with
  | e => exact stepELe L _ _ _ _
  | es =>
    obtain ⟨l, es, σ, h⟩ := x
    cases es with
    | nil => exact refLe
    | cons a t => exact bindLe (L .e _) fun _ => bindLe (L .es _) fun _ => refLe
  | sp =>
    obtain ⟨l, es, σ, h⟩ := x
    cases es with
    | nil => exact refLe
    | cons a t =>
      obtain ⟨b, a⟩ := a
      cases b with
      | false => exact bindLe (L .e _) fun _ => bindLe (L .sp _) fun _ => refLe
      | true => exact bindLe (L .e _) fun _ => bindLe refLe fun _ => bindLe (L .sp _) fun _ => refLe
  | t =>
    obtain ⟨l, c, σ, h⟩ := x
    cases c with
    | not_ a => exact bindLe (L .t _) fun _ => refLe
    | and_ es =>
      cases es with
      | nil => exact refLe
      | cons a t =>
        cases t with
        | nil => exact L .t _
        | cons b t => exact bindLe (L .t _) fun _ => iteLe (L .t _) refLe
    | or_ es =>
      cases es with
      | nil => exact refLe
      | cons a t =>
        cases t with
        | nil => exact L .t _
        | cons b t => exact bindLe (L .t _) fun _ => iteLe refLe (L .t _)
    | _ => exact bindLe (L .e _) fun _ => refLe
  | ts =>
    obtain ⟨l, cs, σ, h⟩ := x
    cases cs with
    | nil => exact refLe
    | cons c t =>
      cases t with
      | nil => exact L .t _
      | cons _ _ => exact refLe
  | ci =>
    obtain ⟨l, c, σ, h⟩ := x
    cases c with
    | ex a => exact bindLe (L .e _) fun _ => refLe
    | rg1 a => exact bindLe (L .e _) fun _ => refLe
    | rg2 a b => exact bindLe (L .e _) fun _ => bindLe (L .e _) fun _ => refLe
    | rg3 a b c => exact bindLe (L .e _) fun _ => bindLe (L .e _) fun _ => bindLe (L .e _) fun _ => refLe
    | en a => exact bindLe (L .e _) fun _ => refLe
    | zp a b => exact bindLe (L .e _) fun _ => bindLe (L .e _) fun _ => refLe
  | g =>
    obtain ⟨l, t, v, σ, h⟩ := x
    cases t with
    | nm i => exact refLe
    | tu gs =>
      cases v with
      | tup xs => exact iteLe (L .gs _) refLe
      | ptp xs => exact iteLe (L .gs _) refLe
      | _ => exact refLe
    | sb o i => exact bindLe (L .e _) fun _ => bindLe (L .e _) fun _ => refLe
  | gs =>
    obtain ⟨l, ts, vs, σ, h⟩ := x
    cases ts with
    | nil => cases vs <;> exact refLe
    | cons t ts =>
      cases vs with
      | nil => exact refLe
      | cons v vs => exact bindLe (L .g _) fun _ => L .gs _
  | s =>
    obtain ⟨l, c, σ, h⟩ := x
    cases c with
    | ex c => exact bindLe (L .e _) fun _ => refLe
    | asg g c => exact bindLe (L .e _) fun _ => bindLe (L .g _) fun _ => refLe
    | par is cs => exact bindLe (L .es _) fun _ => refLe
    | aug i op c => exact bindLe refLe fun _ => bindLe refLe fun _ => bindLe (L .e _) fun _ => refLe
    | ret c => exact bindLe (L .e _) fun _ => refLe
    | retN => exact refLe
    | ife c a b => exact bindLe (L .t _) fun _ => iteLe (L .ss _) (L .ss _)
    | whl c b => exact L .wh _
    | for_ g it b => exact bindLe (L .ci _) fun _ => L .fo _
    | pas => exact refLe
    | brk => exact refLe
    | cnt => exact refLe
    | nev => exact refLe
  | ss =>
    obtain ⟨l, cs, σ, h⟩ := x
    cases cs with
    | nil => exact refLe
    | cons c t =>
      refine bindLe (L .s _) fun p y => ?_
      obtain ⟨fl, sg, h1⟩ := p
      cases fl
      · exact L .ss _ y
      · exact refLe y
      · exact refLe y
      · exact refLe y
  | wh =>
    obtain ⟨l, c, b, σ, h⟩ := x
    refine bindLe (L .t _) fun p => iteLe (bindLe (L .ss _) fun q y => ?_) refLe
    obtain ⟨fl, sg, h1⟩ := q
    cases fl
    · exact L .wh _ y
    · exact refLe y
    · exact L .wh _ y
    · exact refLe y
  | fo =>
    obtain ⟨l, g, b, src, σ, h⟩ := x
    refine bindLe refLe fun o => ?_
    cases o with
    | none => exact fun y => refLe y
    | some z =>
      refine bindLe (L .g _) fun p => bindLe (L .ss _) fun q y => ?_
      obtain ⟨fl, sg, h1⟩ := q
      cases fl
      · exact L .fo _ y
      · exact refLe y
      · exact L .fo _ y
      · exact refLe y
  | lc =>
    obtain ⟨l, elt, g, ifs, src, n, σ, h⟩ := x
    refine bindLe refLe fun o => ?_
    cases o with
    | none => exact fun y => refLe y
    | some z => exact bindLe (L .g _) fun p => bindLe (L .ts _) fun q => iteLe (bindLe (L .e _) fun u => bindLe refLe fun acc => iteLe (L .lc _) refLe) (L .lc _)
  | dc =>
    obtain ⟨l, kx, v, g, ifs, src, n, σ, h⟩ := x
    refine bindLe refLe fun o => ?_
    cases o with
    | none => exact fun y => refLe y
    | some z => exact bindLe (L .g _) fun p => bindLe (L .ts _) fun q => iteLe (bindLe (L .e _) fun u => bindLe (L .e _) fun w => bindLe refLe fun h2 => L .dc _) (L .dc _)
  | ca =>
    obtain ⟨l, f, as, h⟩ := x
    exact bindLe refLe fun F => iteLe (bindLe (L .ss _) fun p => refLe) refLe
end
theorem evs_succ (T : Tab) : ∀ n, Le (evs T n) (evs T (n + 1))
  | 0 => fun _ _ _ h => by cases h
  | n + 1 => stepLe (evs_succ T n) T
theorem evs_le (T : Tab) {n m : Nat} (h : n ≤ m) : Le (evs T n) (evs T m) := by
  induction m with
  | zero =>
    cases Nat.le_zero.mp h
    exact fun _ _ _ h => h
  | succ m ih =>
    rcases Nat.lt_or_ge n (m + 1) with q | q
    · exact fun k x y e => evs_succ T m k x y (ih (by omega) k x y e)
    · cases (show n = m + 1 by omega)
      exact fun _ _ _ h => h
end Ez

/-! EL: the evaluator without fuel -/
namespace Ez
/-- from some number on -/
def Ult (P : Nat → Prop) : Prop := ∃ n, ∀ m, n ≤ m → P m
def Cn {α : Type} (o : Option α) (o' : Nat → Option α) : Prop := ∀ y, o = some y → Ult fun m => o' m = some y
def Lc (r : Ev) (R : Nat → Ev) : Prop := ∀ (k : Kd) (x : In k), Cn (r k x) (fun n => R n k x)
theorem bindCn {α β : Type} {o : Option α} {o' : Nat → Option α} {f : α → Option β} {f' : Nat → α → Option β} (h1 : Cn o o') (h2 : ∀ a, Cn (f a) (fun n => f' n a)) : Cn (o.bind f) (fun n => (o' n).bind (f' n)) := by
  intro b h
  cases o with
  | none => cases h
  | some a =>
    obtain ⟨n, hn⟩ := h1 a rfl
    obtain ⟨k, hk⟩ := h2 a b h
    refine ⟨max n k, fun m hm => ?_⟩
    have e1 : o' m = some a := hn m (by omega)
    show (o' m).bind (f' m) = some b
    rw [e1]
    exact hk m (by omega)
theorem refCn {α : Type} {o : Option α} : Cn o (fun _ => o) := fun _ h => ⟨0, fun _ _ => h⟩
theorem iteCn {α : Type} {c : Prop} [Decidable c] {a b : Option α} {a' b' : Nat → Option α} (h1 : Cn a a') (h2 : Cn b b') : Cn (if c then a else b) (fun n => if c then a' n else b' n) := by
  intro x h
  split at h
  · obtain ⟨n, hn⟩ := h1 x h
    exact ⟨n, fun m hm => by show (if c then a' m else b' m) = some x; rw [if_pos ‹_›]; exact hn m hm⟩
  · obtain ⟨n, hn⟩ := h2 x h
    exact ⟨n, fun m hm => by show (if c then a' m else b' m) = some x; rw [if_neg ‹_›]; exact hn m hm⟩
section
variable {r : Ev} {R : Nat → Ev} (L : Lc r R)
include L
theorem docallCn (l f : Nat) (as : List D) (h : Hh) : Cn (docall r l f as h) (fun n => docall (R n) l f as h) := by
  unfold docall
  exact iteCn (bindCn (L .ca _) fun _ _ => refCn _) (L .ca _)
theorem stepECn (l : Nat) (c : CE) (σ : Sg) (h : Hh) : Cn (stepE r l c σ h) (fun n => stepE (R n) l c σ h) := by
  unfold stepE
  cases c with
  | and_ es =>
    cases es with
    | nil => exact refCn
    | cons a t =>
      cases t with
      | nil => exact L .e _
      | cons b t =>
        refine bindCn (L .e _) fun p y => ?_
        split
        · exact L .e _ y
        · exact refCn y
        · exact refCn y
  | or_ es =>
    cases es with
    | nil => exact refCn
    | cons a t =>
      cases t with
      | nil => exact L .e _
      | cons b t =>
        refine bindCn (L .e _) fun p y => ?_
        split
        · exact L .e _ y
        · exact refCn y
        · exact refCn y
  | call f es =>
    refine bindCn (L .es _) fun p y => ?_
    cases l with
    | zero => exact refCn y
    | succ l => exact docallCn L l f p.1 p.2 y
  | calk f perm es =>
    refine bindCn (L .es _) fun p => bindCn refCn fun as y => ?_
    cases l with
    | zero => exact refCn y
    | succ l => exact docallCn L l f as p.2 y
  | slc a lo hi =>
    refine bindCn (L .e _) fun p => ?_
    cases lo <;> cases hi
    · exact fun y => refCn y
    · exact bindCn (L .e _) fun _ => refCn
    · exact bindCn (L .e _) fun _ => refCn
    · exact bindCn (L .e _) fun _ => bindCn refCn fun _ => bindCn (L .e _) fun _ => refCn
  | rev a =>
    exact bindCn (L .e _) fun _ => refCn
  | var i => exact refCn
  | cst d => exact refCn
  | glb d => exact refCn
  | bin op a b => exact bindCn (L .e _) fun _ => bindCn (L .e _) fun _ => refCn
  | neg a => exact bindCn (L .e _) fun _ => refCn
  | not_ a => exact bindCn (L .e _) fun _ => refCn
  | ite c a b => exact bindCn (L .t _) fun _ => iteCn (L .e _) (L .e _)
  | cmp op a b => exact bindCn (L .e _) fun _ => bindCn (L .e _) fun _ => refCn
  | chn o1 o2 a b d => exact bindCn (L .e _) fun _ => bindCn (L .e _) fun _ => bindCn refCn fun _ => iteCn (bindCn (L .e _) fun _ => refCn) refCn
  | tup es => exact bindCn (L .sp _) fun _ => refCn
  | lst es => exact bindCn (L .es _) fun _ => refCn
  | bi b es => exact bindCn (L .es _) fun _ => refCn
  | isi t a => exact bindCn (L .e _) fun _ => refCn
  | lrg a => exact bindCn (L .e _) fun _ => refCn
  | met m o es => exact bindCn (L .e _) fun _ => bindCn refCn fun _ => bindCn (L .es _) fun _ => refCn
  | sub a i => exact bindCn (L .e _) fun _ => bindCn (L .e _) fun _ => refCn
  | lc own elt tg it ifs => exact bindCn (L .ci _) fun _ => bindCn (L .lc _) fun _ => refCn
  | dc own k v tg it ifs => exact bindCn (L .ci _) fun _ => bindCn (L .dc _) fun _ => refCn
  | dnk => exact refCn
  | dnt => exact refCn
  | dsk ks es => exact bindCn (L .es _) fun _ => refCn
  | dst1 k v => exact bindCn (L .e _) fun _ => bindCn (L .e _) fun _ => refCn
theorem stepCn (T : Tab) : Lc (step T r) (fun n => step T (R n)) := by
  intro k x
  cases k with
  | e => exact stepECn L _ _ _ _
  | es =>
    obtain ⟨l, es, σ, h⟩ := x
    cases es with
    | nil => exact refCn
    | cons a t => exact bindCn (L .e _) fun _ => bindCn (L .es _) fun _ => refCn
  | sp =>
    obtain ⟨l, es, σ, h⟩ := x
    cases es with
    | nil => exact refCn
    | cons a t =>
      obtain ⟨b, a⟩ := a
      cases b with
      | false => exact bindCn (L .e _) fun _ => bindCn (L .sp _) fun _ => refCn
      | true => exact bindCn (L .e _) fun _ => bindCn refCn fun _ => bindCn (L .sp _) fun _ => refCn
  | t =>
    obtain ⟨l, c, σ, h⟩ := x
    cases c with
    | not_ a => exact bindCn (L .t _) fun _ => refCn
    | and_ es =>
      cases es with
      | nil => exact refCn
      | cons a t =>
        cases t with
        | nil => exact L .t _
        | cons b t => exact bindCn (L .t _) fun _ => iteCn (L .t _) refCn
    | or_ es =>
      cases es with
      | nil => exact refCn
      | cons a t =>
        cases t with
        | nil => exact L .t _
        | cons b t => exact bindCn (L .t _) fun _ => iteCn refCn (L .t _)
    | _ => exact bindCn (L .e _) fun _ => refCn
  | ts =>
    obtain ⟨l, cs, σ, h⟩ := x
    cases cs with
    | nil => exact refCn
    | cons c t =>
      cases t with
      | nil => exact L .t _
      | cons _ _ => exact refCn
  | ci =>
    obtain ⟨l, c, σ, h⟩ := x
    cases c with
    | ex a => exact bindCn (L .e _) fun _ => refCn
    | rg1 a => exact bindCn (L .e _) fun _ => refCn
    | rg2 a b => exact bindCn (L .e _) fun _ => bindCn (L .e _) fun _ => refCn
    | rg3 a b c => exact bindCn (L .e _) fun _ => bindCn (L .e _) fun _ => bindCn (L .e _) fun _ => refCn
    | en a => exact bindCn (L .e _) fun _ => refCn
    | zp a b => exact bindCn (L .e _) fun _ => bindCn (L .e _) fun _ => refCn
  | g =>
    obtain ⟨l, t, v, σ, h⟩ := x
    cases t with
    | nm i => exact refCn
    | tu gs =>
      cases v with
      | tup xs => exact iteCn (L .gs _) refCn
      | ptp xs => exact iteCn (L .gs _) refCn
      | _ => exact refCn
    | sb o i => exact bindCn (L .e _) fun _ => bindCn (L .e _) fun _ => refCn
  | gs =>
    obtain ⟨l, ts, vs, σ, h⟩ := x
    cases ts with
    | nil => cases vs <;> exact refCn
    | cons t ts =>
      cases vs with
      | nil => exact refCn
      | cons v vs => exact bindCn (L .g _) fun _ => L .gs _
  | s =>
    obtain ⟨l, c, σ, h⟩ := x
    cases c with
    | ex c => exact bindCn (L .e _) fun _ => refCn
    | asg g c => exact bindCn (L .e _) fun _ => bindCn (L .g _) fun _ => refCn
    | par is cs => exact bindCn (L .es _) fun _ => refCn
    | aug i op c => exact bindCn refCn fun _ => bindCn refCn fun _ => bindCn (L .e _) fun _ => refCn
    | ret c => exact bindCn (L .e _) fun _ => refCn
    | retN => exact refCn
    | ife c a b => exact bindCn (L .t _) fun _ => iteCn (L .ss _) (L .ss _)
    | whl c b => exact L .wh _
    | for_ g it b => exact bindCn (L .ci _) fun _ => L .fo _
    | pas => exact refCn
    | brk => exact refCn
    | cnt => exact refCn
    | nev => exact refCn
  | ss =>
    obtain ⟨l, cs, σ, h⟩ := x
    cases cs with
    | nil => exact refCn
    | cons c t =>
      refine bindCn (L .s _) fun p y => ?_
      obtain ⟨fl, sg, h1⟩ := p
      cases fl
      · exact L .ss _ y
      · exact refCn y
      · exact refCn y
      · exact refCn y
  | wh =>
    obtain ⟨l, c, b, σ, h⟩ := x
    refine bindCn (L .t _) fun p => iteCn (bindCn (L .ss _) fun q y => ?_) refCn
    obtain ⟨fl, sg, h1⟩ := q
    cases fl
    · exact L .wh _ y
    · exact refCn y
    · exact L .wh _ y
    · exact refCn y
  | fo =>
    obtain ⟨l, g, b, src, σ, h⟩ := x
    refine bindCn refCn fun o => ?_
    cases o with
    | none => exact fun y => refCn y
    | some z =>
      refine bindCn (L .g _) fun p => bindCn (L .ss _) fun q y => ?_
      obtain ⟨fl, sg, h1⟩ := q
      cases fl
      · exact L .fo _ y
      · exact refCn y
      · exact L .fo _ y
      · exact refCn y
  | lc =>
    obtain ⟨l, elt, g, ifs, src, n, σ, h⟩ := x
    refine bindCn refCn fun o => ?_
    cases o with
    | none => exact fun y => refCn y
    | some z => exact bindCn (L .g _) fun p => bindCn (L .ts _) fun q => iteCn (bindCn (L .e _) fun u => bindCn refCn fun acc => iteCn (L .lc _) refCn) (L .lc _)
  | dc =>
    obtain ⟨l, kx, v, g, ifs, src, n, σ, h⟩ := x
    refine bindCn refCn fun o => ?_
    cases o with
    | none => exact fun y => refCn y
    | some z => exact bindCn (L .g _) fun p => bindCn (L .ts _) fun q => iteCn (bindCn (L .e _) fun u => bindCn (L .e _) fun w => bindCn refCn fun h2 => L .dc _) (L .dc _)
  | ca =>
    obtain ⟨l, f, as, h⟩ := x
    exact bindCn refCn fun F => iteCn (bindCn (L .ss _) fun p => refCn) refCn
end

/-- what the evaluator tells with any fuel -/
noncomputable def lim (T : Tab) : Ev := fun k x => open Classical in if h : ∃ y, ∃ n, evs T n k x = some y then some h.choose else none
theorem lim_some {T : Tab} {k : Kd} {x : In k} {y : Out k} : lim T k x = some y ↔ ∃ n, evs T n k x = some y := by
  unfold lim
  constructor
  · intro h
    split at h
    · rename_i q
      cases h
      exact q.choose_spec
    · cases h
  · rintro ⟨n, e⟩
    have q : ∃ y, ∃ n, evs T n k x = some y := ⟨y, n, e⟩
    rw [dif_pos q]
    obtain ⟨m, e2⟩ := q.choose_spec
    have a := evs_le T (Nat.le_max_left n m) k x y e
    have b := evs_le T (Nat.le_max_right n m) k x _ e2
    rw [a] at b
    exact b.symm
theorem lim_le (T : Tab) (n : Nat) : Le (evs T n) (lim T) := fun k x y e => lim_some.mpr ⟨n, e⟩
theorem lim_lc (T : Tab) : Lc (lim T) (evs T) := fun k x y e => by
  obtain ⟨n, h⟩ := lim_some.mp e
  exact ⟨n, fun m hm => evs_le T hm k x y h⟩
theorem lim_eq (T : Tab) (k : Kd) (x : In k) : lim T k x = step T (lim T) k x := by
  apply Option.ext
  intro y
  constructor
  · intro h
    obtain ⟨n, e⟩ := lim_some.mp h
    cases n with
    | zero => cases e
    | succ n => exact stepLe (lim_le T n) T k x y e
  · intro h
    obtain ⟨n, hn⟩ := stepCn (lim_lc T) T k x y h
    exact lim_some.mpr ⟨n + 1, hn n (Nat.le_refl _)⟩
end Ez

/-! EM: the evaluator's equations, by constructs -/
namespace Ez2
open Ez
section
variable {T : Tab} {l : Nat} {σ : Sg} {h : Hh}
@[simp] theorem l_var {i : Nat} : lim T .e (l, .var i, σ, h) = (σ[i]?).bind fun o => o.bind fun d => some (d, h) := lim_eq T .e _
@[simp] theorem l_cst {d : D} : lim T .e (l, .cst d, σ, h) = some (d, h) := lim_eq T .e _
@[simp] theorem l_glb {d : D} : lim T .e (l, .glb d, σ, h) = some (d, h) := lim_eq T .e _
@[simp] theorem l_bin {op : BOp} {a b : CE} : lim T .e (l, .bin op a b, σ, h) = (lim T .e (l, a, σ, h)).bind fun p => (lim T .e (l, b, σ, p.2)).bind fun q => binop op p.1 q.1 q.2 := lim_eq T .e _
@[simp] theorem l_neg {a : CE} : lim T .e (l, .neg a, σ, h) = (lim T .e (l, a, σ, h)).bind fun p => (asInt p.1).bind fun i => some (.int (-i), p.2) := lim_eq T .e _
@[simp] theorem l_not {a : CE} : lim T .e (l, .not_ a, σ, h) = (lim T .e (l, a, σ, h)).bind fun p => (truth p.2 p.1).bind fun k => some (.bl (!k), p.2) := lim_eq T .e _
@[simp] theorem l_and1 {a : CE} : lim T .e (l, .and_ [a], σ, h) = lim T .e (l, a, σ, h) := lim_eq T .e _
@[simp] theorem l_and2 {a b : CE} {t : List CE} : lim T .e (l, .and_ (a :: b :: t), σ, h) = (lim T .e (l, a, σ, h)).bind fun p => (match p.1 with
      | .bl true => lim T .e (l, .and_ (b :: t), σ, p.2)
      | .bl false => some (.bl false, p.2)
      | _ => none) := lim_eq T .e _
@[simp] theorem l_or1 {a : CE} : lim T .e (l, .or_ [a], σ, h) = lim T .e (l, a, σ, h) := lim_eq T .e _
@[simp] theorem l_or2 {a b : CE} {t : List CE} : lim T .e (l, .or_ (a :: b :: t), σ, h) = (lim T .e (l, a, σ, h)).bind fun p => (match p.1 with
      | .bl false => lim T .e (l, .or_ (b :: t), σ, p.2)
      | .bl true => some (.bl true, p.2)
      | _ => none) := lim_eq T .e _
@[simp] theorem l_ite {c a b : CE} : lim T .e (l, .ite c a b, σ, h) = (lim T .t (l, c, σ, h)).bind fun p => if p.1 = true then lim T .e (l, a, σ, p.2) else lim T .e (l, b, σ, p.2) := lim_eq T .e _
@[simp] theorem l_cmp {op : COp} {a b : CE} : lim T .e (l, .cmp op a b, σ, h) = (lim T .e (l, a, σ, h)).bind fun p => (lim T .e (l, b, σ, p.2)).bind fun q => (cmpop op p.1 q.1 q.2).bind fun k => some (.bl k, q.2) := lim_eq T .e _
@[simp] theorem l_chn {o1 o2 : COp} {a b c : CE} : lim T .e (l, .chn o1 o2 a b c, σ, h) = (lim T .e (l, a, σ, h)).bind fun p => (lim T .e (l, b, σ, p.2)).bind fun q => (cmpop o1 p.1 q.1 q.2).bind fun k =>
      if k = true then (lim T .e (l, c, σ, q.2)).bind fun u => (cmpop o2 q.1 u.1 u.2).bind fun k2 => some (.bl k2, u.2) else some (.bl false, q.2) := lim_eq T .e _
@[simp] theorem l_tup {es : List (Bool × CE)} : lim T .e (l, .tup es, σ, h) = (lim T .sp (l, es, σ, h)).bind fun p => if p.1.length ≤ SL then some (.tup p.1, p.2) else none := lim_eq T .e _
@[simp] theorem l_lst {es : List CE} : lim T .e (l, .lst es, σ, h) = (lim T .es (l, es, σ, h)).bind fun p => if p.1.length ≤ SL then alloc p.2 (.lst p.1) else none := lim_eq T .e _
@[simp] theorem l_call {f : Nat} {es : List CE} : lim T .e (l + 1, .call f es, σ, h) = (lim T .es (l + 1, es, σ, h)).bind fun p => docall (lim T) l f p.1 p.2 := lim_eq T .e _
@[simp] theorem l_bi {b : Bi} {es : List CE} : lim T .e (l, .bi b es, σ, h) = (lim T .es (l, es, σ, h)).bind fun p => bi b p.1 p.2 := lim_eq T .e _
@[simp] theorem l_isi {t : Ty} {a : CE} : lim T .e (l, .isi t a, σ, h) = (lim T .e (l, a, σ, h)).bind fun p => (isTy p.2 t p.1).bind fun k => some (.bl k, p.2) := lim_eq T .e _
theorem l_lrg {a : CE} : lim T .e (l, .lrg a, σ, h) = (lim T .e (l, a, σ, h)).bind fun p => (asInt p.1).bind fun i => if decide (i.toNat ≤ SL) && inR i then alloc p.2 (.lst (rngs 0 i.toNat)) else none := lim_eq T .e _
@[simp] theorem l_met {m : Me} {o : CE} {es : List CE} : lim T .e (l, .met m o es, σ, h) = (lim T .e (l, o, σ, h)).bind fun p => (rcv p.2 p.1).bind fun rt => (lim T .es (l, es, σ, p.2)).bind fun q => met rt m p.1 q.1 q.2 := lim_eq T .e _
@[simp] theorem l_sub {a i : CE} : lim T .e (l, .sub a i, σ, h) = (lim T .e (l, a, σ, h)).bind fun p => (lim T .e (l, i, σ, p.2)).bind fun q => (subscr p.1 q.1 q.2).bind fun d => some (d, q.2) := lim_eq T .e _
@[simp] theorem l_slc00 {a : CE} : lim T .e (l, .slc a none none, σ, h) = (lim T .e (l, a, σ, h)).bind fun p => slice p.1 none none p.2 := lim_eq T .e _
@[simp] theorem l_slc10 {a x : CE} : lim T .e (l, .slc a (some x) none, σ, h) = (lim T .e (l, a, σ, h)).bind fun p => (lim T .e (l, x, σ, p.2)).bind fun q => (asInt q.1).bind fun i => slice p.1 (some i) none q.2 := lim_eq T .e _
@[simp] theorem l_slc01 {a y : CE} : lim T .e (l, .slc a none (some y), σ, h) = (lim T .e (l, a, σ, h)).bind fun p => (lim T .e (l, y, σ, p.2)).bind fun q => (asInt q.1).bind fun i => slice p.1 none (some i) q.2 := lim_eq T .e _
@[simp] theorem l_slc11 {a x y : CE} : lim T .e (l, .slc a (some x) (some y), σ, h) = (lim T .e (l, a, σ, h)).bind fun p => (lim T .e (l, x, σ, p.2)).bind fun q => (asInt q.1).bind fun i => (lim T .e (l, y, σ, q.2)).bind fun u => (asInt u.1).bind fun j => slice p.1 (some i) (some j) u.2 := lim_eq T .e _
@[simp] theorem l_rev {a : CE} : lim T .e (l, .rev a, σ, h) = (lim T .e (l, a, σ, h)).bind fun p => (match p.1 with
    | .ref n => (getL p.2 n).bind fun xs => alloc p.2 (.lst xs.reverse)
    | .tup xs => some (.tup xs.reverse, p.2)
    | _ => none) := lim_eq T .e _
@[simp] theorem l_lc {own : List Nat} {elt : CE} {tg : TG} {it : CI} {ifs : List CE} : lim T .e (l, .lc own elt tg it ifs, σ, h) = (lim T .ci (l, it, σ, h)).bind fun p => (lim T .lc (l, elt, tg, ifs, p.1, p.2.length, wipe σ own, p.2 ++ [.lst []])).bind fun h2 => some (.ref p.2.length, h2) := lim_eq T .e _
@[simp] theorem l_dc {own : List Nat} {k v : CE} {tg : TG} {it : CI} {ifs : List CE} : lim T .e (l, .dc own k v tg it ifs, σ, h) = (lim T .ci (l, it, σ, h)).bind fun p => (lim T .dc (l, k, v, tg, ifs, p.1, p.2.length, wipe σ own, p.2 ++ [.dK []])).bind fun h2 => some (.ref p.2.length, h2) := lim_eq T .e _
@[simp] theorem l_dnk : lim T .e (l, .dnk, σ, h) = alloc h (.dK []) := lim_eq T .e _
@[simp] theorem l_dnt : lim T .e (l, .dnt, σ, h) = alloc h (.dT []) := lim_eq T .e _
@[simp] theorem l_dsk {ks : List (List Nat)} {es : List CE} : lim T .e (l, .dsk ks es, σ, h) = (lim T .es (l, es, σ, h)).bind fun p => if decide (ks.length ≤ 15) && decide (p.1.length = ks.length) then alloc p.2 (.dK ((ks.map D.str).zip p.1)) else none := lim_eq T .e _
@[simp] theorem l_dst1 {k v : CE} : lim T .e (l, .dst1 k v, σ, h) = (lim T .e (l, k, σ, h)).bind fun p => (lim T .e (l, v, σ, p.2)).bind fun q => if keyT p.1 then alloc q.2 (.dT [(p.1, q.1)]) else none := lim_eq T .e _
@[simp] theorem l_es0 : lim T .es (l, [], σ, h) = some ([], h) := lim_eq T .es _
@[simp] theorem l_es1 {a : CE} {t : List CE} : lim T .es (l, a :: t, σ, h) = (lim T .e (l, a, σ, h)).bind fun p => (lim T .es (l, t, σ, p.2)).bind fun q => some (p.1 :: q.1, q.2) := lim_eq T .es _
@[simp] theorem l_sp0 : lim T .sp (l, [], σ, h) = some ([], h) := lim_eq T .sp _
@[simp] theorem l_sp1 {a : CE} {t : List (Bool × CE)} : lim T .sp (l, (false, a) :: t, σ, h) = (lim T .e (l, a, σ, h)).bind fun p => (lim T .sp (l, t, σ, p.2)).bind fun q => some (p.1 :: q.1, q.2) := lim_eq T .sp _
@[simp] theorem l_sp2 {a : CE} {t : List (Bool × CE)} : lim T .sp (l, (true, a) :: t, σ, h) = (lim T .e (l, a, σ, h)).bind fun p => (seqOf p.2 p.1).bind fun xs => (lim T .sp (l, t, σ, p.2)).bind fun q => some (xs ++ q.1, q.2) := lim_eq T .sp _
/-! truth -/
@[simp] theorem t_not {a : CE} : lim T .t (l, .not_ a, σ, h) = (lim T .t (l, a, σ, h)).bind fun p => some (!p.1, p.2) := lim_eq T .t _
@[simp] theorem t_and1 {a : CE} : lim T .t (l, .and_ [a], σ, h) = lim T .t (l, a, σ, h) := lim_eq T .t _
@[simp] theorem t_and2 {a b : CE} {t : List CE} : lim T .t (l, .and_ (a :: b :: t), σ, h) = (lim T .t (l, a, σ, h)).bind fun p => if p.1 = true then lim T .t (l, .and_ (b :: t), σ, p.2) else some (false, p.2) := lim_eq T .t _
@[simp] theorem t_or1 {a : CE} : lim T .t (l, .or_ [a], σ, h) = lim T .t (l, a, σ, h) := lim_eq T .t _
@[simp] theorem t_or2 {a b : CE} {t : List CE} : lim T .t (l, .or_ (a :: b :: t), σ, h) = (lim T .t (l, a, σ, h)).bind fun p => if p.1 = true then some (true, p.2) else lim T .t (l, .or_ (b :: t), σ, p.2) := lim_eq T .t _
@[simp] theorem t_cmp {op : COp} {a b : CE} : lim T .t (l, .cmp op a b, σ, h) = (lim T .e (l, .cmp op a b, σ, h)).bind fun p => (truth p.2 p.1).bind fun k => some (k, p.2) := lim_eq T .t _
@[simp] theorem t_chn {o1 o2 : COp} {a b c : CE} : lim T .t (l, .chn o1 o2 a b c, σ, h) = (lim T .e (l, .chn o1 o2 a b c, σ, h)).bind fun p => (truth p.2 p.1).bind fun k => some (k, p.2) := lim_eq T .t _
@[simp] theorem t_call {f : Nat} {es : List CE} : lim T .t (l, .call f es, σ, h) = (lim T .e (l, .call f es, σ, h)).bind fun p => (truth p.2 p.1).bind fun k => some (k, p.2) := lim_eq T .t _
@[simp] theorem t_bi {b : Bi} {es : List CE} : lim T .t (l, .bi b es, σ, h) = (lim T .e (l, .bi b es, σ, h)).bind fun p => (truth p.2 p.1).bind fun k => some (k, p.2) := lim_eq T .t _
@[simp] theorem t_isi {t : Ty} {a : CE} : lim T .t (l, .isi t a, σ, h) = (lim T .e (l, .isi t a, σ, h)).bind fun p => (truth p.2 p.1).bind fun k => some (k, p.2) := lim_eq T .t _
@[simp] theorem t_var {i : Nat} : lim T .t (l, .var i, σ, h) = (lim T .e (l, .var i, σ, h)).bind fun p => (truth p.2 p.1).bind fun k => some (k, p.2) := lim_eq T .t _
@[simp] theorem ts0 : lim T .ts (l, [], σ, h) = some (true, h) := lim_eq T .ts _
@[simp] theorem ts1 {c : CE} : lim T .ts (l, [c], σ, h) = lim T .t (l, c, σ, h) := lim_eq T .ts _
/-! iterables -/
@[simp] theorem i_ex {a : CE} : lim T .ci (l, .ex a, σ, h) = (lim T .e (l, a, σ, h)).bind fun p => (srcOf p.2 p.1).bind fun s => some (s, p.2) := lim_eq T .ci _
theorem i_rg1 {a : CE} : lim T .ci (l, .rg1 a, σ, h) = (lim T .e (l, a, σ, h)).bind fun p => (asInt p.1).bind fun i => if inR i then some (.it (rngs 0 i.toNat), p.2) else none := lim_eq T .ci _
theorem i_rg2 {a b : CE} : lim T .ci (l, .rg2 a b, σ, h) = (lim T .e (l, a, σ, h)).bind fun p => (lim T .e (l, b, σ, p.2)).bind fun q => (asInt p.1).bind fun i => (asInt q.1).bind fun j =>
        if inR i && inR j then some (.it (rngs i (j - i).toNat), q.2) else none := lim_eq T .ci _
theorem i_rg3 {a b c : CE} : lim T .ci (l, .rg3 a b c, σ, h) = (lim T .e (l, a, σ, h)).bind fun p => (lim T .e (l, b, σ, p.2)).bind fun q => (lim T .e (l, c, σ, q.2)).bind fun u => (asInt p.1).bind fun i => (asInt q.1).bind fun j => (asInt u.1).bind fun k =>
        if inR i && inR j && decide (k = -1) then some (.it (rngc i (-1) (i - j).toNat), u.2) else none := lim_eq T .ci _
@[simp] theorem i_en {a : CE} : lim T .ci (l, .en a, σ, h) = (lim T .e (l, a, σ, h)).bind fun p => (srcEn p.2 p.1).bind fun s => some (s, p.2) := lim_eq T .ci _
@[simp] theorem i_zp {a b : CE} : lim T .ci (l, .zp a b, σ, h) = (lim T .e (l, a, σ, h)).bind fun p => (lim T .e (l, b, σ, p.2)).bind fun q => (srcZp q.2 p.1 q.1).bind fun s => some (s, q.2) := lim_eq T .ci _
/-! targets -/
@[simp] theorem g_nm' {i : Nat} {v : D} : lim T .g (l, .nm i, v, σ, h) = some (σ.set i (some v), h) := lim_eq T .g _
@[simp] theorem g_tu' {gs : List TG} {xs : List D} : lim T .g (l, .tu gs, .tup xs, σ, h) = if xs.length = gs.length then lim T .gs (l, gs, xs, σ, h) else none := lim_eq T .g _
@[simp] theorem g_tp' {gs : List TG} {xs : List D} : lim T .g (l, .tu gs, .ptp xs, σ, h) = if xs.length = gs.length then lim T .gs (l, gs, xs, σ, h) else none := lim_eq T .g _
@[simp] theorem g_sb' {o i : CE} {v : D} : lim T .g (l, .sb o i, v, σ, h) = (lim T .e (l, o, σ, h)).bind fun p => (lim T .e (l, i, σ, p.2)).bind fun q => (store p.1 q.1 v q.2).bind fun h2 => some (σ, h2) := lim_eq T .g _
@[simp] theorem gs0 : lim T .gs (l, [], [], σ, h) = some (σ, h) := lim_eq T .gs _
@[simp] theorem gs1 {t : TG} {ts : List TG} {v : D} {vs : List D} : lim T .gs (l, t :: ts, v :: vs, σ, h) = (lim T .g (l, t, v, σ, h)).bind fun p => lim T .gs (l, ts, vs, p.1, p.2) := lim_eq T .gs _
/-! statements -/
@[simp] theorem s_ex {c : CE} : lim T .s (l, .ex c, σ, h) = (lim T .e (l, c, σ, h)).bind fun p => some (.nx, σ, p.2) := lim_eq T .s _
@[simp] theorem s_asg {g : TG} {c : CE} : lim T .s (l, .asg g c, σ, h) = (lim T .e (l, c, σ, h)).bind fun p => (lim T .g (l, g, p.1, σ, p.2)).bind fun q => some (.nx, q.1, q.2) := lim_eq T .s _
@[simp] theorem s_par {is : List Nat} {cs : List CE} : lim T .s (l, .par is cs, σ, h) = (lim T .es (l, cs, σ, h)).bind fun p => (match is, p.1 with
      | [i, j], [v, w] => some (.nx, (σ.set i (some v)).set j (some w), p.2)
      | [i, j, k], [v, w, u] => some (.nx, ((σ.set i (some v)).set j (some w)).set k (some u), p.2)
      | _, _ => none) := lim_eq T .s _
@[simp] theorem s_aug {i : Nat} {op : BOp} {c : CE} : lim T .s (l, .aug i op c, σ, h) = (σ[i]?).bind fun o => o.bind fun x => (lim T .e (l, c, σ, h)).bind fun p => (match x, p.1 with
      | .int a, .int b => (binop op (.int a) (.int b) p.2).bind fun q => some (.nx, σ.set i (some q.1), p.2)
      | _, _ => none) := lim_eq T .s _
@[simp] theorem s_ret {c : CE} : lim T .s (l, .ret c, σ, h) = (lim T .e (l, c, σ, h)).bind fun p => some (.rt p.1, σ, p.2) := lim_eq T .s _
@[simp] theorem s_retN : lim T .s (l, .retN, σ, h) = some (.rt .non, σ, h) := lim_eq T .s _
@[simp] theorem s_ife {c : CE} {a b : List CS} : lim T .s (l, .ife c a b, σ, h) = (lim T .t (l, c, σ, h)).bind fun p => if p.1 = true then lim T .ss (l, a, σ, p.2) else lim T .ss (l, b, σ, p.2) := lim_eq T .s _
@[simp] theorem s_whl {c : CE} {b : List CS} : lim T .s (l, .whl c b, σ, h) = lim T .wh (l, c, b, σ, h) := lim_eq T .s _
@[simp] theorem s_for {g : TG} {it : CI} {b : List CS} : lim T .s (l, .for_ g it b, σ, h) = (lim T .ci (l, it, σ, h)).bind fun p => lim T .fo (l, g, b, p.1, σ, p.2) := lim_eq T .s _
@[simp] theorem s_pas : lim T .s (l, .pas, σ, h) = some (.nx, σ, h) := lim_eq T .s _
@[simp] theorem s_brk : lim T .s (l, .brk, σ, h) = some (.bk, σ, h) := lim_eq T .s _
@[simp] theorem s_cnt : lim T .s (l, .cnt, σ, h) = some (.ct, σ, h) := lim_eq T .s _
@[simp] theorem ss0 : lim T .ss (l, [], σ, h) = some (.nx, σ, h) := lim_eq T .ss _
@[simp] theorem ss1 {c : CS} {t : List CS} : lim T .ss (l, c :: t, σ, h) = (lim T .s (l, c, σ, h)).bind fun p => (match p.1 with
      | .nx => lim T .ss (l, t, p.2.1, p.2.2)
      | f => some (f, p.2.1, p.2.2)) := lim_eq T .ss _
/-! loops -/
theorem wh_eq {c : CE} {b : List CS} : lim T .wh (l, c, b, σ, h) = (lim T .t (l, c, σ, h)).bind fun p => if p.1 = true then (lim T .ss (l, b, σ, p.2)).bind fun q => (match q.1 with
      | .nx => lim T .wh (l, c, b, q.2.1, q.2.2)
      | .ct => lim T .wh (l, c, b, q.2.1, q.2.2)
      | .bk => some (.nx, q.2.1, q.2.2)
      | .rt d => some (.rt d, q.2.1, q.2.2)) else some (.nx, σ, p.2) := lim_eq T .wh _
@[simp] theorem fo_nil {g : TG} {b : List CS} : lim T .fo (l, g, b, .it [], σ, h) = some (.nx, σ, h) := lim_eq T .fo _
@[simp] theorem fo_cons {g : TG} {b : List CS} {x : D} {r : List D} : lim T .fo (l, g, b, .it (x :: r), σ, h) = (lim T .g (l, g, x, σ, h)).bind fun p => (lim T .ss (l, b, p.1, p.2)).bind fun q => (match q.1 with
      | .nx => lim T .fo (l, g, b, .it r, q.2.1, q.2.2)
      | .ct => lim T .fo (l, g, b, .it r, q.2.1, q.2.2)
      | .bk => some (.nx, q.2.1, q.2.2)
      | .rt d => some (.rt d, q.2.1, q.2.2)) := lim_eq T .fo _
theorem fo_eq {g : TG} {b : List CS} {src : Src} : lim T .fo (l, g, b, src, σ, h) = (next h src).bind fun o => (match o with
    | none => some (.nx, σ, h)
    | some x => (lim T .g (l, g, x.1, σ, h)).bind fun p => (lim T .ss (l, b, p.1, p.2)).bind fun q => (match q.1 with
      | .nx => lim T .fo (l, g, b, x.2, q.2.1, q.2.2)
      | .ct => lim T .fo (l, g, b, x.2, q.2.1, q.2.2)
      | .bk => some (.nx, q.2.1, q.2.2)
      | .rt d => some (.rt d, q.2.1, q.2.2))) := lim_eq T .fo _
@[simp] theorem lc_nil {elt : CE} {g : TG} {ifs : List CE} {n : Nat} : lim T .lc (l, elt, g, ifs, .it [], n, σ, h) = some h := lim_eq T .lc _
@[simp] theorem lc_cons {elt : CE} {g : TG} {ifs : List CE} {n : Nat} {x : D} {r : List D} : lim T .lc (l, elt, g, ifs, .it (x :: r), n, σ, h) = (lim T .g (l, g, x, σ, h)).bind fun p => (lim T .ts (l, ifs, p.1, p.2)).bind fun q => if q.1 = true then (lim T .e (l, elt, p.1, q.2)).bind fun u =>
        (getM u.2 n).bind fun acc => if acc.length < SL then lim T .lc (l, elt, g, ifs, .it r, n, σ, u.2.set n (.lst (acc ++ [u.1]))) else none
      else lim T .lc (l, elt, g, ifs, .it r, n, σ, q.2) := lim_eq T .lc _
theorem lc_eq {elt : CE} {g : TG} {ifs : List CE} {n : Nat} {src : Src} : lim T .lc (l, elt, g, ifs, src, n, σ, h) = (next h src).bind fun o => (match o with
    | none => some h
    | some x => (lim T .g (l, g, x.1, σ, h)).bind fun p => (lim T .ts (l, ifs, p.1, p.2)).bind fun q => if q.1 = true then (lim T .e (l, elt, p.1, q.2)).bind fun u =>
        (getM u.2 n).bind fun acc => if acc.length < SL then lim T .lc (l, elt, g, ifs, x.2, n, σ, u.2.set n (.lst (acc ++ [u.1]))) else none
      else lim T .lc (l, elt, g, ifs, x.2, n, σ, q.2)) := lim_eq T .lc _
@[simp] theorem dc_nil {k v : CE} {g : TG} {ifs : List CE} {n : Nat} : lim T .dc (l, k, v, g, ifs, .it [], n, σ, h) = some h := lim_eq T .dc _
@[simp] theorem dc_cons {k v : CE} {g : TG} {ifs : List CE} {n : Nat} {x : D} {r : List D} : lim T .dc (l, k, v, g, ifs, .it (x :: r), n, σ, h) = (lim T .g (l, g, x, σ, h)).bind fun p => (lim T .ts (l, ifs, p.1, p.2)).bind fun q => if q.1 = true then (lim T .e (l, k, p.1, q.2)).bind fun u => (lim T .e (l, v, p.1, u.2)).bind fun z =>
        (dputK z.2 n u.1 z.1).bind fun h2 => lim T .dc (l, k, v, g, ifs, .it r, n, σ, h2)
      else lim T .dc (l, k, v, g, ifs, .it r, n, σ, q.2) := lim_eq T .dc _
/-! calls -/
theorem ca_eq {f : Nat} {as : List D} {F : Fn} (hT : T[f]? = some F) (hl : as.length = F.np) : lim T .ca (l, f, as, h) = (lim T .ss (l, F.body, start F.ns as, h)).bind fun p => (match p.1 with
      | .nx => some (.non, p.2.2)
      | .rt d => some (d, p.2.2)
      | _ => none) := by
  rw [lim_eq]
  show (T[f]?).bind _ = _
  rw [hT]
  show (if as.length = F.np then _ else _) = _
  rw [if_pos hl] <;> rfl
end
/-! ### what is left behind a call -/
mutual
theorem refs_no : ∀ d : D, noref d = true → refs d = []
  | .non, _ => by simp [refs]
  | .bl _, _ => by simp [refs]
  | .int _, _ => by simp [refs]
  | .str _, _ => by simp [refs]
  | .rp _, _ => by simp [refs]
  | .ref _, h => by simp [noref] at h
  | .ptp _, h => by simp [noref] at h
  | .tup xs, h => by simp only [refs]; exact refss_no xs (by simpa [noref] using h)
theorem refss_no : ∀ ds : List D, norefs ds = true → refss ds = []
  | [], _ => by simp [refss]
  | d :: ds, h => by
    simp only [norefs, Bool.and_eq_true] at h
    simp only [refss, refs_no d h.1, refss_no ds h.2, List.append_nil]
end
mutual
theorem ren_no {ks : List Nat} {b : Nat} : ∀ d : D, noref d = true → ren ks b d = some d
  | .non, _ => by simp [ren]
  | .bl _, _ => by simp [ren]
  | .int _, _ => by simp [ren]
  | .str _, _ => by simp [ren]
  | .rp _, _ => by simp [ren]
  | .ref _, h => by simp [noref] at h
  | .ptp _, h => by simp [noref] at h
  | .tup xs, h => by simp only [ren]; rw [rens_no xs (by simpa [noref] using h)]; rfl
theorem rens_no {ks : List Nat} {b : Nat} : ∀ ds : List D, norefs ds = true → rens ks b ds = some ds
  | [], _ => by simp [rens]
  | d :: ds, h => by
    simp only [norefs, Bool.and_eq_true] at h
    simp only [rens, ren_no d h.1, rens_no ds h.2, Option.bind_some]
end
theorem kept_val {h : Hh} {d : D} {b : Nat} (e : noref d = true) : kept h d b = some (d, []) := by
  unfold kept
  simp only [refs_no d e]
  have : reach h 100000 [] [] = [] := rfl
  rw [this, ren_no d e]
  rfl
theorem kept_lst {h : Hh} {n b : Nat} {xs : List D} (e : h[n]? = some (.lst xs)) (q : norefs xs = true) : kept h (.ref n) b = some (.ref b, [.lst xs]) := by
  unfold kept
  have e1 : refs (.ref n) = [n] := rfl
  have e2 : ∀ f, reach h (f + 2) [n] [] = [n] := by
    intro f
    simp only [reach, List.contains_nil, Bool.false_eq_true, if_false, e, refsO, refss_no xs q, List.nil_append, List.append_nil]
  simp only [e1, e2 99998]
  simp [ren, pos, mapO, e, renO, rens_no xs q]
theorem docall_val {T : Tab} {l f : Nat} {as : List D} {h h' : Hh} {d : D} (ha : norefs as = true) (e : lim T .ca (l, f, as, []) = some (d, h')) (q : noref d = true) : docall (lim T) l f as h = some (d, h) := by
  unfold docall
  rw [if_pos ha]
  show (lim T .ca (l, f, as, [])).bind _ = _
  rw [e]
  show (kept h' d h.length).bind _ = _
  rw [kept_val q]
  simp
theorem docall_lst {T : Tab} {l f n : Nat} {as xs : List D} {h h' : Hh} (ha : norefs as = true) (e : lim T .ca (l, f, as, []) = some (.ref n, h')) (g : h'[n]? = some (.lst xs)) (q : norefs xs = true) : docall (lim T) l f as h = some (.ref h.length, h ++ [.lst xs]) := by
  unfold docall
  rw [if_pos ha]
  show (lim T .ca (l, f, as, [])).bind _ = _
  rw [e]
  show (kept h' (.ref n) h.length).bind _ = _
  rw [kept_lst g q]
  rfl
theorem docall_ref {T : Tab} {l f : Nat} {as : List D} {h : Hh} (ha : norefs as = false) : docall (lim T) l f as h = lim T .ca (l, f, as, h) := by
  unfold docall
  rw [ha]
  rfl
end Ez2

/-! EN: loops -/
namespace Ez2
open Ez
section
variable {T : Tab} {l : Nat} {g : TG} {b : List CS}
theorem fo_it (I : List D → Sg → Hh → Prop)
    (stp : ∀ x r σ h, I (x :: r) σ h → ∃ p σ' h', lim T .g (l, g, x, σ, h) = some p ∧ lim T .ss (l, b, p.1, p.2) = some (.nx, σ', h') ∧ I r σ' h') :
    ∀ xs σ h, I xs σ h → ∃ σ' h', lim T .fo (l, g, b, .it xs, σ, h) = some (.nx, σ', h') ∧ I [] σ' h'
  | [], σ, h, i => ⟨σ, h, fo_nil, i⟩
  | x :: r, σ, h, i => by
    obtain ⟨p, σ1, h1, e1, e2, i1⟩ := stp x r σ h i
    obtain ⟨σ2, h2, e3, i2⟩ := fo_it I stp r σ1 h1 i1
    refine ⟨σ2, h2, ?_, i2⟩
    rw [fo_cons, e1]
    show (lim T .ss (l, b, p.1, p.2)).bind _ = _
    rw [e2]
    exact e3
/-- a list of the heap that stays while it is walked -/
theorem fo_dy (xs : List D) (n : Nat) (I : Nat → Sg → Hh → Prop) (hI : ∀ i σ h, I i σ h → getL h n = some xs)
    (stp : ∀ i x σ h, xs[i]? = some x → I i σ h → ∃ p σ' h', lim T .g (l, g, x, σ, h) = some p ∧ lim T .ss (l, b, p.1, p.2) = some (.nx, σ', h') ∧ I (i + 1) σ' h') :
    ∀ k i σ h, i + k = xs.length → I i σ h → ∃ σ' h', lim T .fo (l, g, b, .dy n i, σ, h) = some (.nx, σ', h') ∧ I xs.length σ' h'
  | 0, i, σ, h, hk, hi => by
    have e : i = xs.length := by omega
    subst e
    refine ⟨σ, h, ?_, hi⟩
    rw [fo_eq]
    simp [next, hI _ σ h hi]
  | k + 1, i, σ, h, hk, hi => by
    have hl : i < xs.length := by omega
    obtain ⟨p, σ1, h1, e1, e2, i1⟩ := stp i xs[i] σ h (by simp [hl]) hi
    obtain ⟨σ2, h2, e3, i2⟩ := fo_dy xs n I hI stp k (i + 1) σ1 h1 (by omega) i1
    refine ⟨σ2, h2, ?_, i2⟩
    rw [fo_eq]
    simp only [next, hI _ σ h hi, Option.bind_some, hl, List.getElem?_eq_getElem, e1, e2]
    exact e3
/-- a list of the heap with numbers, that stays while it is walked -/
theorem fo_en (xs : List D) (n : Nat) (I : Nat → Sg → Hh → Prop) (hI : ∀ i σ h, I i σ h → getL h n = some xs)
    (stp : ∀ i x σ h, xs[i]? = some x → I i σ h → ∃ p σ' h', lim T .g (l, g, .ptp [.int (i : Nat), x], σ, h) = some p ∧ lim T .ss (l, b, p.1, p.2) = some (.nx, σ', h') ∧ I (i + 1) σ' h') :
    ∀ k i σ h, i + k = xs.length → I i σ h → ∃ σ' h', lim T .fo (l, g, b, .en n i, σ, h) = some (.nx, σ', h') ∧ I xs.length σ' h'
  | 0, i, σ, h, hk, hi => by
    have e : i = xs.length := by omega
    subst e
    refine ⟨σ, h, ?_, hi⟩
    rw [fo_eq]
    simp [next, hI _ σ h hi]
  | k + 1, i, σ, h, hk, hi => by
    have hl : i < xs.length := by omega
    obtain ⟨p, σ1, h1, e1, e2, i1⟩ := stp i xs[i] σ h (by simp [hl]) hi
    obtain ⟨σ2, h2, e3, i2⟩ := fo_en xs n I hI stp k (i + 1) σ1 h1 (by omega) i1
    refine ⟨σ2, h2, ?_, i2⟩
    rw [fo_eq]
    simp only [next, hI _ σ h hi, Option.bind_some, hl, List.getElem?_eq_getElem, e1, e2]
    exact e3
end
section
variable {T : Tab} {l : Nat} {g : TG} {b : List CS}
/-- items that stay, by their numbers -/
theorem fo_ix {α : Type} (en : α → D) (xs : List α) (I : Nat → Sg → Hh → Prop)
    (stp : ∀ i x σ h, xs[i]? = some x → I i σ h → ∃ p σ' h', lim T .g (l, g, en x, σ, h) = some p ∧ lim T .ss (l, b, p.1, p.2) = some (.nx, σ', h') ∧ I (i + 1) σ' h') :
    ∀ σ h, I 0 σ h → ∃ σ' h', lim T .fo (l, g, b, .it (xs.map en), σ, h) = some (.nx, σ', h') ∧ I xs.length σ' h' := by
  intro σ h i0
  obtain ⟨σ', h', e, k, hk, hi⟩ := fo_it (T := T) (l := l) (g := g) (b := b) (fun r σ h => ∃ k, r = (xs.drop k).map en ∧ k ≤ xs.length ∧ I k σ h) (by
    rintro x r σ h ⟨k, e, hk, hi⟩
    have hl : k < xs.length := by
      by_cases q : k < xs.length
      · exact q
      · rw [List.drop_eq_nil_of_le (by omega)] at e
        cases e
    rw [List.drop_eq_getElem_cons hl, List.map_cons] at e
    cases e
    obtain ⟨p, σ', h', e1, e2, i1⟩ := stp k xs[k] σ h (by simp [hl]) hi
    exact ⟨p, σ', h', e1, e2, k + 1, rfl, hl, i1⟩) (xs.map en) σ h ⟨0, by simp, Nat.zero_le _, i0⟩
  have : k = xs.length := by
    have := congrArg List.length hk
    simp at this
    omega
  subst this
  exact ⟨σ', h', e, hi.2⟩
theorem fo_rg {n : Nat} (I : Nat → Sg → Hh → Prop)
    (stp : ∀ i σ h, i < n → I i σ h → ∃ p σ' h', lim T .g (l, g, .int (i : Nat), σ, h) = some p ∧ lim T .ss (l, b, p.1, p.2) = some (.nx, σ', h') ∧ I (i + 1) σ' h') :
    ∀ σ h, I 0 σ h → ∃ σ' h', lim T .fo (l, g, b, .it ((List.range n).map fun (i : Nat) => D.int i), σ, h) = some (.nx, σ', h') ∧ I n σ' h' := by
  intro σ h i0
  have := fo_ix (T := T) (l := l) (g := g) (b := b) (fun (i : Nat) => D.int i) (List.range n) I (fun i x σ h e hi => by
    obtain ⟨hl, rfl⟩ := List.getElem?_eq_some_iff.mp e
    rw [List.length_range] at hl
    simpa using stp i σ h hl hi) σ h i0
  simpa using this
end
/-! ### comprehensions -/
/-- a later heap that has the base as its beginning -/
def Agr (h0 h : Hh) : Prop := ∀ i, i < h0.length → h[i]? = h0[i]?
theorem Agr.refl {h : Hh} : Agr h h := fun _ _ => rfl
theorem Agr.app {h0 h : Hh} (a : Agr h0 h) (e : Hh) (hl : h0.length ≤ h.length) : Agr h0 (h ++ e) := fun i hi => by rw [List.getElem?_append_left (by omega)]; exact a i hi
theorem Agr.set {h0 h : Hh} (a : Agr h0 h) {n : Nat} {o : O} (hn : h0.length ≤ n) : Agr h0 (h.set n o) := fun i hi => by rw [List.getElem?_set_ne (by omega)]; exact a i hi
theorem Agr.pre {h0 h : Hh} (a : Agr h0 h) (hl : h0.length ≤ h.length) : ∃ e, h = h0 ++ e := by
  refine ⟨h.drop h0.length, ?_⟩
  apply List.ext_getElem?
  intro i
  by_cases hi : i < h0.length
  · rw [List.getElem?_append_left hi]; exact a i hi
  · rw [List.getElem?_append_right (by omega), List.getElem?_drop]
    congr 1
    omega
theorem Agr.of_app {h0 e : Hh} : Agr h0 (h0 ++ e) := fun i hi => by rw [List.getElem?_append_left hi]
theorem Agr.getL {h0 h : Hh} (a : Agr h0 h) {n : Nat} {xs : List D} (e : Ez.getL h0 n = some xs) : Ez.getL h n = some xs := by
  have hn : n < h0.length := by
    unfold Ez.getL at e
    by_cases q : n < h0.length
    · exact q
    · rw [List.getElem?_eq_none (by omega)] at e
      cases e
  unfold Ez.getL at e ⊢
  rw [a n hn]
  exact e
section
variable {T : Tab} {l : Nat} {elt : CE} {g : TG} {ifs : List CE} {σ : Sg} {h0 : Hh}
/-- what an item gives: a value, or nothing; evaluated over any heap that begins with the base -/
def El (T : Tab) (l : Nat) (elt : CE) (g : TG) (ifs : List CE) (σ : Sg) (h0 : Hh) (x : D) (o : Option D) : Prop :=
  ∀ h, h0.length ≤ h.length → Agr h0 h → ∃ σ', lim T .g (l, g, x, σ, h) = some (σ', h) ∧
    ((∃ v e, o = some v ∧ lim T .ts (l, ifs, σ', h) = some (true, h) ∧ lim T .e (l, elt, σ', h) = some (v, h ++ e)) ∨ (o = none ∧ lim T .ts (l, ifs, σ', h) = some (false, h)))
/-- the heap while a list is filled at its end -/
def Fil (h0 : Hh) (acc : List D) (h : Hh) : Prop := h0.length < h.length ∧ Agr h0 h ∧ h[h0.length]? = some (.lst acc)
theorem Fil.start : Fil h0 [] (h0 ++ [.lst []]) := ⟨by simp, Agr.of_app, by simp⟩
theorem Fil.getM {acc : List D} {h : Hh} (F : Fil h0 acc h) (e : Hh) : Ez.getM (h ++ e) h0.length = some acc := by
  unfold Ez.getM
  rw [List.getElem?_append_left F.1, F.2.2]
theorem Fil.next {acc : List D} {h : Hh} {v : D} (F : Fil h0 acc h) (e : Hh) : Fil h0 (acc ++ [v]) ((h ++ e).set h0.length (.lst (acc ++ [v]))) := by
  refine ⟨by simp; have := F.1; omega, (F.2.1.app e (Nat.le_of_lt F.1)).set (Nat.le_refl _), ?_⟩
  rw [List.getElem?_set_self (by simp; have := F.1; omega)]
theorem Fil.fin {acc : List D} {h : Hh} (F : Fil h0 acc h) : ∃ e, h = h0 ++ .lst acc :: e := by
  obtain ⟨hl, ha, hn⟩ := F
  obtain ⟨e, he⟩ := ha.pre (Nat.le_of_lt hl)
  subst he
  rw [List.getElem?_append_right (Nat.le_refl _), Nat.sub_self] at hn
  cases e with
  | nil => simp at hn
  | cons a r =>
    simp at hn
    subst hn
    exact ⟨r, rfl⟩
theorem lc_it {α : Type} (en : α → D) (f : α → Option D) : ∀ (xs : List α) (acc : List D) (h : Hh), (∀ x ∈ xs, El T l elt g ifs σ h0 (en x) (f x)) → Fil h0 acc h → acc.length + xs.length < SL →
    ∃ h', lim T .lc (l, elt, g, ifs, .it (xs.map en), h0.length, σ, h) = some h' ∧ Fil h0 (acc ++ xs.filterMap f) h'
  | [], acc, h, _, F, _ => ⟨h, lc_nil, by simpa using F⟩
  | x :: r, acc, h, hx, F, hl => by
    obtain ⟨σ', e1, q⟩ := hx x List.mem_cons_self h (Nat.le_of_lt F.1) F.2.1
    rw [List.length_cons] at hl
    rcases q with ⟨v, e, ev, e2, e3⟩ | ⟨ev, e2⟩
    · obtain ⟨h', e4, F'⟩ := lc_it en f r (acc ++ [v]) _ (fun y hy => hx y (List.mem_cons_of_mem _ hy)) (F.next (v := v) e) (by simp; omega)
      refine ⟨h', ?_, by simpa [List.filterMap_cons, ev] using F'⟩
      have hacc : acc.length < SL := by omega
      rw [List.map_cons, lc_cons, e1]
      simp only [Option.bind_some, e2, if_true, e3, F.getM, hacc]
      exact e4
    · obtain ⟨h', e4, F'⟩ := lc_it en f r acc h (fun y hy => hx y (List.mem_cons_of_mem _ hy)) F (by omega)
      refine ⟨h', ?_, by simpa [List.filterMap_cons, ev] using F'⟩
      rw [List.map_cons, lc_cons, e1]
      simp only [Option.bind_some, e2, Bool.false_eq_true, if_false]
      exact e4
theorem lc_dy {α : Type} (en : α → D) (f : α → Option D) (xs : List α) (n : Nat) (hn : getL h0 n = some (xs.map en)) : ∀ (k i : Nat) (acc : List D) (h : Hh), i + k = xs.length → (∀ x ∈ xs, El T l elt g ifs σ h0 (en x) (f x)) → Fil h0 acc h → acc.length + k < SL →
    ∃ h', lim T .lc (l, elt, g, ifs, .dy n i, h0.length, σ, h) = some h' ∧ Fil h0 (acc ++ (xs.drop i).filterMap f) h'
  | 0, i, acc, h, hk, _, F, _ => by
    have e : i = xs.length := by omega
    subst e
    refine ⟨h, ?_, by simpa using F⟩
    rw [lc_eq]
    simp [next, F.2.1.getL hn]
  | k + 1, i, acc, h, hk, hx, F, hl => by
    have hi : i < xs.length := by omega
    have hm : xs[i] ∈ xs := List.getElem_mem hi
    have hd : xs.drop i = xs[i] :: xs.drop (i + 1) := List.drop_eq_getElem_cons hi
    obtain ⟨σ', e1, q⟩ := hx xs[i] hm h (Nat.le_of_lt F.1) F.2.1
    rcases q with ⟨v, e, ev, e2, e3⟩ | ⟨ev, e2⟩
    · obtain ⟨h', e4, F'⟩ := lc_dy en f xs n hn k (i + 1) (acc ++ [v]) _ (by omega) hx (F.next (v := v) e) (by simp; omega)
      refine ⟨h', ?_, by rw [hd, List.filterMap_cons, ev]; rw [List.append_assoc] at F'; exact F'⟩
      have hacc : acc.length < SL := by omega
      rw [lc_eq]
      simp only [next, F.2.1.getL hn, Option.bind_some, List.getElem?_map, hi, List.getElem?_eq_getElem, Option.map_some, e1, e2, if_true, e3, F.getM, hacc]
      exact e4
    · obtain ⟨h', e4, F'⟩ := lc_dy en f xs n hn k (i + 1) acc h (by omega) hx F (by omega)
      refine ⟨h', ?_, by rw [hd, List.filterMap_cons, ev]; exact F'⟩
      rw [lc_eq]
      simp only [next, F.2.1.getL hn, Option.bind_some, List.getElem?_map, hi, List.getElem?_eq_getElem, Option.map_some, e1, e2, Bool.false_eq_true, if_false]
      exact e4
/-- a comprehension over items that stay -/
theorem e_lc {α : Type} {own : List Nat} {it : CI} {xs : List α} {h : Hh} (en : α → D) (f : α → Option D) (hi : lim T .ci (l, it, σ, h) = some (.it (xs.map en), h0)) (hx : ∀ x ∈ xs, El T l elt g ifs (wipe σ own) h0 (en x) (f x)) (hl : xs.length < SL) :
    ∃ e, lim T .e (l, .lc own elt g it ifs, σ, h) = some (.ref h0.length, h0 ++ .lst (xs.filterMap f) :: e) := by
  obtain ⟨h', e1, F⟩ := lc_it en f xs [] _ hx Fil.start (by simpa using hl)
  obtain ⟨e, rfl⟩ := F.fin
  refine ⟨e, ?_⟩
  rw [l_lc, hi]
  simp only [Option.bind_some]
  rw [e1]
  rfl
/-- a comprehension over a list of the heap -/
theorem e_lcd {α : Type} {own : List Nat} {it : CI} {xs : List α} {h : Hh} {n : Nat} (en : α → D) (f : α → Option D) (hi : lim T .ci (l, it, σ, h) = some (.dy n 0, h0)) (hn : getL h0 n = some (xs.map en)) (hx : ∀ x ∈ xs, El T l elt g ifs (wipe σ own) h0 (en x) (f x)) (hl : xs.length < SL) :
    ∃ e, lim T .e (l, .lc own elt g it ifs, σ, h) = some (.ref h0.length, h0 ++ .lst (xs.filterMap f) :: e) := by
  obtain ⟨h', e1, F⟩ := lc_dy en f xs n hn xs.length 0 [] _ (by omega) hx Fil.start (by simpa using hl)
  obtain ⟨e, rfl⟩ := F.fin
  refine ⟨e, ?_⟩
  rw [l_lc, hi]
  simp only [Option.bind_some]
  rw [e1]
  simp
/-- every item gives a value -/
theorem e_lcm {α : Type} {own : List Nat} {it : CI} {xs : List α} {h : Hh} (en f : α → D) (hi : lim T .ci (l, it, σ, h) = some (.it (xs.map en), h0))
    (hx : ∀ x ∈ xs, ∀ h, h0.length ≤ h.length → Agr h0 h → ∃ σ' e, lim T .g (l, g, en x, wipe σ own, h) = some (σ', h) ∧ lim T .e (l, elt, σ', h) = some (f x, h ++ e)) (hl : xs.length < SL) :
    ∃ e, lim T .e (l, .lc own elt g it [], σ, h) = some (.ref h0.length, h0 ++ .lst (xs.map f) :: e) := by
  have := e_lc (own := own) (elt := elt) (g := g) (ifs := []) en (fun x => some (f x)) hi (fun x hx' h h1 h2 => by
    obtain ⟨σ', e, e1, e2⟩ := hx x hx' h h1 h2
    exact ⟨σ', e1, .inl ⟨_, e, rfl, ts0, e2⟩⟩) hl
  rw [List.filterMap_eq_map'] at this
  exact this
theorem e_lcmd {α : Type} {own : List Nat} {it : CI} {xs : List α} {h : Hh} {n : Nat} (en f : α → D) (hi : lim T .ci (l, it, σ, h) = some (.dy n 0, h0)) (hn : getL h0 n = some (xs.map en))
    (hx : ∀ x ∈ xs, ∀ h, h0.length ≤ h.length → Agr h0 h → ∃ σ' e, lim T .g (l, g, en x, wipe σ own, h) = some (σ', h) ∧ lim T .e (l, elt, σ', h) = some (f x, h ++ e)) (hl : xs.length < SL) :
    ∃ e, lim T .e (l, .lc own elt g it [], σ, h) = some (.ref h0.length, h0 ++ .lst (xs.map f) :: e) := by
  have := e_lcd (own := own) (elt := elt) (g := g) (ifs := []) en (fun x => some (f x)) hi hn (fun x hx' h h1 h2 => by
    obtain ⟨σ', e, e1, e2⟩ := hx x hx' h h1 h2
    exact ⟨σ', e1, .inl ⟨_, e, rfl, ts0, e2⟩⟩) hl
  rw [List.filterMap_eq_map'] at this
  exact this
end
/-- a comprehension whose items change the heap -/
theorem lc_ix {T : Tab} {l : Nat} {elt : CE} {g : TG} {σ : Sg} {α : Type} (en : α → D) (n : Nat) (I : Nat → List D → Hh → Prop) : ∀ (xs : List α) (k : Nat) (acc : List D) (h : Hh),
    (∀ i x acc h, xs[i]? = some x → I (k + i) acc h → ∃ σ' v h2, lim T .g (l, g, en x, σ, h) = some (σ', h) ∧ lim T .e (l, elt, σ', h) = some (v, h2) ∧ getM h2 n = some acc ∧ acc.length < SL ∧ I (k + i + 1) (acc ++ [v]) (h2.set n (.lst (acc ++ [v])))) →
    I k acc h → ∃ acc' h', lim T .lc (l, elt, g, [], .it (xs.map en), n, σ, h) = some h' ∧ I (k + xs.length) acc' h'
  | [], k, acc, h, _, hi => ⟨acc, h, lc_nil, hi⟩
  | x :: r, k, acc, h, stp, hi => by
    obtain ⟨σ', v, h2, e1, e2, e3, e4, i2⟩ := stp 0 x acc h rfl hi
    obtain ⟨acc', h', e5, i3⟩ := lc_ix en n I r (k + 1) (acc ++ [v]) _ (fun i y a g q w => by
      have := stp (i + 1) y a g (by simpa using q) (by rw [show k + (i + 1) = k + 1 + i by omega]; exact w)
      rw [show k + (i + 1) + 1 = k + 1 + i + 1 by omega] at this
      exact this) i2
    refine ⟨acc', h', ?_, by rw [List.length_cons, show k + (r.length + 1) = k + 1 + r.length by omega]; exact i3⟩
    rw [List.map_cons, lc_cons, e1]
    simp only [Option.bind_some, ts0, if_true, e2, e3, e4]
    exact e5
/-! ### dicts -/
section
variable {T : Tab} {l : Nat} {k v : CE} {g : TG} {ifs : List CE} {σ : Sg}
theorem putV_len {eq : D → D → Bool} {k v : D} (kvs : List (D × D)) : (putV eq k v kvs).length ≤ kvs.length + 1 := by
  unfold putV
  split <;> simp
theorem dc_it {n : Nat} (fk fv : D → D) : ∀ (xs : List D) (kvs : List (D × D)) (h : Hh), (∀ x ∈ xs, ∀ h, ∃ σ', lim T .g (l, g, x, σ, h) = some (σ', h) ∧ lim T .ts (l, ifs, σ', h) = some (true, h) ∧ lim T .e (l, k, σ', h) = some (fk x, h) ∧ lim T .e (l, v, σ', h) = some (fv x, h)) →
    (∀ x ∈ xs, keyK (fk x) = true) → h[n]? = some (.dK kvs) → kvs.length + xs.length < SL → lim T .dc (l, k, v, g, ifs, .it xs, n, σ, h) = some (h.set n (.dK (xs.foldl (fun a x => putV keqK (fk x) (fv x) a) kvs)))
  | [], kvs, h, _, _, hn, _ => by
    rw [dc_nil]
    congr 1
    apply List.ext_getElem?
    intro i
    by_cases e : i = n
    · subst e
      rw [List.getElem?_set_self (List.getElem?_eq_some_iff.mp hn).1]
      exact hn
    · rw [List.getElem?_set_ne (Ne.symm e)]
  | x :: r, kvs, h, hx, hk, hn, hl => by
    obtain ⟨σ', e1, e2, e3, e4⟩ := hx x List.mem_cons_self h
    rw [List.length_cons] at hl
    have hlt : n < h.length := (List.getElem?_eq_some_iff.mp hn).1
    have hp : dputK h n (fk x) (fv x) = some (h.set n (.dK (putV keqK (fk x) (fv x) kvs))) := by
      unfold dputK dput
      have : kvs.length < SL := by omega
      simp [hn, hk x List.mem_cons_self, this]
    have ih := dc_it fk fv r (putV keqK (fk x) (fv x) kvs) (h.set n (.dK (putV keqK (fk x) (fv x) kvs))) (fun y hy => hx y (List.mem_cons_of_mem _ hy)) (fun y hy => hk y (List.mem_cons_of_mem _ hy)) (by rw [List.getElem?_set_self hlt]) (by have := putV_len (eq := keqK) (k := fk x) (v := fv x) kvs; omega)
    rw [dc_cons, e1]
    simp only [Option.bind_some, e2, if_true, e3, e4, hp]
    rw [ih]
    simp
end
/-! ### while -/
theorem wh_it {T : Tab} {l : Nat} {c : CE} {b : List CS} (I : Nat → Sg → Hh → Prop)
    (stp : ∀ k σ h, I (k + 1) σ h → ∃ h1 σ' h', lim T .t (l, c, σ, h) = some (true, h1) ∧ lim T .ss (l, b, σ, h1) = some (.nx, σ', h') ∧ I k σ' h')
    (fin : ∀ σ h, I 0 σ h → ∃ h1, lim T .t (l, c, σ, h) = some (false, h1) ∧ I 0 σ h1) :
    ∀ k σ h, I k σ h → ∃ σ' h', lim T .wh (l, c, b, σ, h) = some (.nx, σ', h') ∧ I 0 σ' h'
  | 0, σ, h, i => by
    obtain ⟨h1, e1, i1⟩ := fin σ h i
    refine ⟨σ, h1, ?_, i1⟩
    rw [wh_eq, e1]
    rfl
  | k + 1, σ, h, i => by
    obtain ⟨h1, σ1, h2, e1, e2, i1⟩ := stp k σ h i
    obtain ⟨σ2, h3, e3, i2⟩ := wh_it I stp fin k σ1 h2 i1
    refine ⟨σ2, h3, ?_, i2⟩
    rw [wh_eq, e1]
    simp only [Option.bind_some, if_true, e2]
    exact e3
/-! ### values -/
section
variable {h : Hh} {i j : Int}
theorem b_add : binop .add (.int i) (.int j) h = some (.int (i + j), h) := rfl
theorem b_sub : binop .sub (.int i) (.int j) h = some (.int (i - j), h) := rfl
theorem b_mulL (hw : inW i = true) : binop .mul (.int i) (.int j) h = some (.int (i * j), h) := by
  show (if (inW i || inW j) = true then _ else _) = _
  rw [if_pos (by rw [hw]; rfl)]
theorem b_mulR (hw : inW j = true) : binop .mul (.int i) (.int j) h = some (.int (i * j), h) := by
  show (if (inW i || inW j) = true then _ else _) = _
  rw [if_pos (by rw [hw, Bool.or_true])]
theorem b_fdiv (h1 : 0 < j) (h2 : j < 1073741824) : binop .fdiv (.int i) (.int j) h = some (.int (i / j), h) := by
  show (if (decide (0 < j) && decide (j < 1073741824)) = true then _ else _) = _
  rw [if_pos (by rw [decide_eq_true h1, decide_eq_true h2]; rfl)]
theorem b_mod (h1 : 0 < j) : binop .mod (.int i) (.int j) h = some (.int (i % j), h) := by
  show (if decide (0 < j) = true then _ else _) = _
  rw [if_pos (decide_eq_true h1)]
theorem b_cat {xs ys : List D} (hl : xs.length + ys.length ≤ SL) : binop .add (.tup xs) (.tup ys) h = some (.tup (xs ++ ys), h) := by
  show (if xs.length + ys.length ≤ SL then _ else _) = _
  rw [if_pos hl]
end
@[simp] theorem asInt_int (i : Int) : asInt (.int i) = some i := rfl
theorem asInts_map (w : List Nat) : asInts (w.map fun (n : Nat) => D.int n) = some (w.map fun (n : Nat) => (n : Int)) := by
  induction w with
  | nil => rfl
  | cons a r ih => simp [asInts, ih]
theorem asBools_true (n : Nat) : asBools (List.replicate n (D.bl true)) = some (List.replicate n true) := by
  induction n with
  | zero => rfl
  | succ n ih => simp [List.replicate_succ, asBools, ih]
theorem idx_map (w : List Nat) (k : Nat) : (w.map fun (n : Nat) => (n : Int)).idxOf (k : Int) = w.idxOf k := by
  induction w with
  | nil => rfl
  | cons a r ih =>
    simp only [List.map_cons, List.idxOf_cons, ih]
    have : ((a : Int) == (k : Int)) = (a == k) := by
      rw [Bool.eq_iff_iff]
      simp only [beq_iff_eq]
      omega
    rw [this]
theorem contains_map (w : List Nat) (k : Nat) : (w.map fun (n : Nat) => (n : Int)).contains (k : Int) = decide (k ∈ w) := by
  rw [Bool.eq_iff_iff]
  simp only [List.contains_eq_mem, List.mem_map, decide_eq_true_eq]
  constructor
  · rintro ⟨a, ha, e⟩
    have : a = k := by omega
    subst this
    exact ha
  · exact fun h => ⟨k, h, rfl⟩
theorem rngs_eq (a n : Nat) : rngs (a : Int) n = (List.range' a n).map fun (i : Nat) => D.int i := by
  induction n generalizing a with
  | zero => rfl
  | succ n ih =>
    rw [List.range'_succ]
    simp only [rngs, List.map_cons]
    have := ih (a + 1)
    rw [← this]
    simp
theorem rngs0 (n : Nat) : rngs 0 n = (List.range n).map fun (i : Nat) => D.int i := by
  have := rngs_eq 0 n
  rw [List.range_eq_range']
  simpa using this
theorem inR_of {i : Int} (h1 : 0 ≤ i) (h2 : i ≤ 1000000) : inR i = true := Nat.ble_eq_true_of_le (by omega)
theorem SL_of {n : Nat} (h : n ≤ 1000000) : n < SL := Nat.lt_of_le_of_lt h (by decide)
theorem SL_le {n : Nat} (h : n ≤ 1000000) : n ≤ SL := Nat.le_of_lt (SL_of h)
section
variable {T : Tab} {l : Nat} {σ : Sg} {h h1 h2 h3 : Hh} {a b c : CE}
theorem i_rg1n {n : Nat} (e : lim T .e (l, a, σ, h) = some (.int (n : Nat), h1)) (hn : n ≤ 1000000) : lim T .ci (l, .rg1 a, σ, h) = some (.it ((List.range n).map fun (i : Nat) => D.int i), h1) := by
  have hr : inR (n : Int) = true := inR_of (by omega) (by omega)
  rw [i_rg1, e]
  simp only [Option.bind_some, asInt_int]
  rw [if_pos hr, Int.toNat_natCast, rngs0]
theorem i_rg2n {n m : Nat} (e : lim T .e (l, a, σ, h) = some (.int (n : Nat), h1)) (e2 : lim T .e (l, b, σ, h1) = some (.int (m : Nat), h2)) (hn : n ≤ m) (hm : m ≤ 1000000) : lim T .ci (l, .rg2 a b, σ, h) = some (.it ((List.range' n (m - n)).map fun (i : Nat) => D.int i), h2) := by
  have hr : (inR (n : Int) && inR (m : Int)) = true := by rw [inR_of (by omega) (by omega), inR_of (by omega) (by omega)]; rfl
  rw [i_rg2, e]
  simp only [Option.bind_some, asInt_int, e2]
  rw [if_pos hr, rngs_eq]
  have : ((m : Int) - (n : Int)).toNat = m - n := by omega
  rw [this]
theorem i_lrgn {n : Nat} (e : lim T .e (l, a, σ, h) = some (.int (n : Nat), h1)) (hn : n ≤ 1000000) : lim T .e (l, .lrg a, σ, h) = some (.ref h1.length, h1 ++ [.lst ((List.range n).map fun (i : Nat) => D.int i)]) := by
  have hr : (decide ((n : Int).toNat ≤ SL) && inR (n : Int)) = true := by
    rw [inR_of (by omega) (by omega), decide_eq_true]
    · rfl
    · rw [Int.toNat_natCast]; exact SL_le hn
  rw [l_lrg, e]
  simp only [Option.bind_some, asInt_int]
  rw [if_pos hr, Int.toNat_natCast, rngs0, alloc]
end
/-- distinct ints as keys -/
theorem put_fresh {k v : D} {kvs : List (D × D)} (h : ∀ p ∈ kvs, keqK p.1 k = false) : putV keqK k v kvs = kvs ++ [(k, v)] := by
  unfold putV
  rw [if_neg]
  rw [Bool.not_eq_true, List.any_eq_false]
  intro p hp
  rw [h p hp]
  simp
theorem fold_ints (v : D) : ∀ (w : List Nat) (kvs : List (D × D)), w.Nodup → (∀ p ∈ kvs, ∀ x ∈ w, keqK p.1 (.int x) = false) → (w.map fun (n : Nat) => D.int n).foldl (fun a x => putV keqK x v a) kvs = kvs ++ w.map fun (n : Nat) => (D.int n, v)
  | [], kvs, _, _ => by simp
  | a :: r, kvs, hn, hk => by
    rw [List.nodup_cons] at hn
    simp only [List.map_cons, List.foldl_cons]
    rw [put_fresh fun p hp => hk p hp a List.mem_cons_self]
    rw [fold_ints v r _ hn.2 fun p hp x hx => ?_]
    · simp
    · rcases List.mem_append.mp hp with hp | hp
      · exact hk p hp x (List.mem_cons_of_mem _ hx)
      · cases List.mem_singleton.mp hp
        simp only [keqK, beq_eq_false_iff_ne]
        intro e
        have : a = x := by omega
        subst this
        exact hn.1 hx
end Ez2

namespace K02
open Ez
/-! 0 is_whole(thing, least, most) slots thing least most -/
def b0 : List CS := [(.ret (.and_ [(.isi .int (.var 0)), (.not_ (.isi .bool (.var 0))), (.chn .le .le (.var 1) (.var 0) (.var 2))]))]
/-! 1 is_order(thing, many) slots thing many one -/
def b1 : List CS := [(.ife (.or_ [(.not_ (.isi .tuple (.var 0))), (.cmp .ne (.bi .len [(.var 0)]) (.var 1)), (.not_ (.bi .all [(.lc [2] (.call 0 [(.var 2), (.cst (.int 0)), (.bin .sub (.var 1) (.cst (.int 1)))]) (.nm 2) (.ex (.var 0)) [])]))]) [(.ret (.cst (.bl false)))] []), (.ret (.cmp .eq (.bi .len [(.dc [2] (.var 2) (.cst (.bl true)) (.nm 2) (.ex (.var 0)) [])]) (.var 1)))]
/-! 2 need_net(net) slots net number order -/
def b2 : List CS := [(.ife (.or_ [(.not_ (.isi .tuple (.var 0))), (.cmp .ne (.bi .len [(.var 0)]) (.cst (.int 2)))]) [.nev] []), (.ife (.not_ (.call 0 [(.sub (.var 0) (.cst (.int 0))), (.cst (.int 1)), (.glb (.int 3))])) [.nev] []), (.ife (.or_ [(.not_ (.isi .tuple (.sub (.var 0) (.cst (.int 1))))), (.cmp .gt (.bi .len [(.sub (.var 0) (.cst (.int 1)))]) (.glb (.int 3)))]) [.nev] []), (.for_ (.tu [(.nm 1), (.nm 2)]) (.en (.sub (.var 0) (.cst (.int 1)))) [(.ife (.not_ (.call 1 [(.var 2), (.call 3 [(.var 0)])])) [.nev] [])]), (.ret (.var 0))]
/-! 3 stations_of(net) slots net -/
def b3 : List CS := [(.ret (.bin .shl (.cst (.int 1)) (.sub (.var 0) (.cst (.int 0)))))]
/-! 4 rows_of(net) slots net -/
def b4 : List CS := [(.ret (.bin .add (.bi .len [(.sub (.var 0) (.cst (.int 1)))]) (.cst (.int 1))))]
/-! 5 many_stations(net) slots net -/
def b5 : List CS := [(.ret (.call 3 [(.call 2 [(.var 0)])]))]
/-! 6 many_rows(net) slots net -/
def b6 : List CS := [(.ret (.call 4 [(.call 2 [(.var 0)])]))]
/-! 7 turned(net) slots net order wire -/
def b7 : List CS := [(.ex (.call 2 [(.var 0)])), (.ret (.tup [(false, (.sub (.var 0) (.cst (.int 0)))), (false, (.bi .tuple1 [(.lc [1] (.bi .tuple1 [(.lc [2] (.met .index (.var 1) [(.var 2)]) (.nm 2) (.rg1 (.bi .len [(.var 1)])) [])]) (.nm 1) (.ex (.rev (.sub (.var 0) (.cst (.int 1))))) [])]))]))]
/-! 8 need_station(net, station) slots net station -/
def b8 : List CS := [(.ife (.not_ (.call 0 [(.var 1), (.cst (.int 0)), (.bin .sub (.call 3 [(.var 0)]) (.cst (.int 1)))])) [.nev] [])]
/-! 9 ways_in(net, one, other) slots net one other row rows wires way later fresh wire out longer -/
def b9 : List CS := [(.par [4, 5] [(.lst [(.tup [(false, (.var 1))])]), (.dst1 (.tup [(false, (.var 1))]) (.var 1))]), (.for_ (.nm 3) (.rg1 (.call 4 [(.var 0)])) [(.par [7, 8] [(.lst []), .dnt]), (.for_ (.nm 6) (.ex (.var 4)) [(.asg (.nm 9) (.sub (.var 5) (.var 6))), (.for_ (.nm 10) (.ex (.tup [(false, (.bin .sub (.var 9) (.bin .mod (.var 9) (.cst (.int 2))))), (false, (.bin .add (.bin .sub (.var 9) (.bin .mod (.var 9) (.cst (.int 2)))) (.cst (.int 1))))])) [(.asg (.nm 11) (.tup [(true, (.var 6)), (false, (.var 10))])), (.ex (.met .append (.var 7) [(.var 11)])), (.asg (.sb (.var 8) (.var 11)) (.ite (.cmp .lt (.var 3) (.bi .len [(.sub (.var 0) (.cst (.int 1)))])) (.sub (.sub (.sub (.var 0) (.cst (.int 1))) (.var 3)) (.var 10)) (.var 10)))])]), (.par [4, 5] [(.var 7), (.var 8)])]), (.ret (.bi .sorted1 [(.lc [6] (.var 6) (.nm 6) (.ex (.var 4)) [(.cmp .eq (.sub (.var 6) (.neg (.cst (.int 1)))) (.var 2))])]))]
/-! 10 ways(net, one, other) slots net one other -/
def b10 : List CS := [(.ex (.call 2 [(.var 0)])), (.ex (.call 8 [(.var 0), (.var 1)])), (.ex (.call 8 [(.var 0), (.var 2)])), (.ret (.bi .tuple1 [(.call 9 [(.var 0), (.var 1), (.var 2)])]))]
/-! 11 _law_mixed(_law_cell, _law_n) slots _law_cell _law_n _law_blend -/
def b11 : List CS := [(.asg (.nm 2) (.bin .add (.bin .add (.bin .mod (.bi .int1 [(.bin .mul (.bin .mul (.var 0) (.bin .add (.cst (.int 3)) (.bin .mul (.cst (.int 2)) (.var 1)))) (.cst (.int 69621)))]) (.cst (.int 2147483647))) (.bin .mul (.bin .mul (.cst (.int 104729)) (.var 1)) (.var 1))) (.bin .mul (.cst (.int 7919)) (.var 1)))), (.ret (.bin .fdiv (.bin .mod (.bi .int1 [(.bin .mul (.var 2) (.cst (.int 48271)))]) (.cst (.int 2147483629))) (.cst (.int 9))))]
/-! 12 _law_folded(_law_script) slots _law_script _law_found _law_n _law_cell -/
def b12 : List CS := [(.asg (.nm 1) (.lc [2] (.bin .add (.cst (.int 29)) (.bin .mul (.cst (.int 3)) (.var 2))) (.nm 2) (.rg1 (.cst (.int 64))) [])), (.for_ (.tu [(.nm 2), (.nm 3)]) (.en (.var 0)) [(.asg (.sb (.var 1) (.bin .mod (.bi .int1 [(.var 2)]) (.cst (.int 64)))) (.bin .mod (.bi .int1 [(.bin .add (.bin .mul (.sub (.var 1) (.bin .mod (.bi .int1 [(.var 2)]) (.cst (.int 64)))) (.cst (.int 69621))) (.var 3))]) (.cst (.int 2147483647))))]), (.for_ (.nm 2) (.rg2 (.cst (.int 1)) (.cst (.int 64))) [(.asg (.sb (.var 1) (.var 2)) (.bin .mod (.bi .int1 [(.bin .add (.sub (.var 1) (.var 2)) (.bin .mul (.sub (.var 1) (.bin .sub (.var 2) (.cst (.int 1)))) (.cst (.int 48271))))]) (.cst (.int 2147483647))))]), (.ret (.var 1))]
/-! 13 _law_draw(_law_m, _law_limit) slots _law_m _law_limit _law_n _law_lot _law_here _law_cell -/
def b13 : List CS := [(.asg (.nm 2) (.sub (.var 0) (.cst (.str [115, 112, 111, 116])))), (.asg (.sb (.var 0) (.cst (.str [115, 112, 111, 116]))) (.bin .add (.var 2) (.cst (.int 1)))), (.ife (.cmp .ne (.sub (.var 0) (.cst (.str [103, 114, 101, 97, 116]))) (.lst [])) [(.asg (.nm 3) (.sub (.var 0) (.cst (.str [103, 114, 101, 97, 116])))), (.asg (.nm 4) (.bin .mod (.bi .int1 [(.var 2)]) (.bi .len [(.var 3)]))), (.asg (.nm 5) (.sub (.var 3) (.var 4))), (.ife (.cmp .gt (.var 5) (.cst (.int 0))) [(.asg (.sb (.var 3) (.var 4)) (.bin .fdiv (.var 5) (.var 1))), (.ret (.bin .mod (.bi .int1 [(.var 5)]) (.var 1)))] [])] []), (.asg (.nm 3) (.sub (.var 0) (.cst (.str [99, 101, 108, 108, 115])))), (.ret (.bin .mod (.bi .int1 [(.call 11 [(.call 11 [(.bin .add (.sub (.var 3) (.bin .mod (.bi .int1 [(.var 2)]) (.cst (.int 64)))) (.bin .mul (.cst (.int 37)) (.bin .fdiv (.var 2) (.cst (.int 64))))), (.var 2)]), (.bin .add (.var 2) (.cst (.int 5)))])]) (.var 1)))]
/-! 14 _law_begun(_law_script) slots _law_script _law_m _law_cell -/
def b14 : List CS := [(.asg (.nm 1) (.dsk [[99, 101, 108, 108, 115], [103, 114, 101, 97, 116], [115, 112, 111, 116]] [(.call 12 [(.var 0)]), (.lst []), (.cst (.int 0))])), (.asg (.sb (.var 1) (.cst (.str [103, 114, 101, 97, 116]))) (.lc [2] (.ite (.cmp .ge (.var 2) (.bin .pow (.cst (.int 10)) (.cst (.int 18)))) (.var 2) (.cst (.int 0))) (.nm 2) (.ex (.var 0)) [])), (.ret (.var 1))]
/-! 15 _law_like(_law_got, _law_due) slots _law_got _law_due -/
def b15 : List CS := [(.ret (.cmp .eq (.bi .repr1 [(.var 0)]) (.bi .repr1 [(.var 1)])))]
/-! 16 _law_power(_law_many) slots _law_many _law_found _law_k -/
def b16 : List CS := [(.asg (.nm 1) (.cst (.int 1))), (.for_ (.nm 2) (.rg1 (.var 0)) [(.asg (.nm 1) (.bin .mul (.var 1) (.cst (.int 2))))]), (.ret (.var 1))]
/-! 17 _law_shuffled(_law_m, _law_many) slots _law_m _law_many _law_left _law_found -/
def b17 : List CS := [(.par [2, 3] [(.lrg (.var 1)), (.tup [])]), (.whl (.cmp .ne (.var 2) (.lst [])) [(.asg (.nm 3) (.bin .add (.var 3) (.tup [(false, (.met .pop1 (.var 2) [(.call 13 [(.var 0), (.bi .len [(.var 2)])])]))])))]), (.ret (.var 3))]
/-! 18 _law_wiring(_law_m, _law_many) slots _law_m _law_many _law_kind _law_wire -/
def b18 : List CS := [(.asg (.nm 2) (.call 13 [(.var 0), (.cst (.int 4))])), (.ife (.cmp .eq (.var 2) (.cst (.int 0))) [(.ret (.bi .tuple1 [(.lc [3] (.ite (.cmp .lt (.bin .mul (.cst (.int 2)) (.var 3)) (.var 1)) (.bin .mul (.cst (.int 2)) (.var 3)) (.bin .sub (.bin .add (.bin .mul (.cst (.int 2)) (.var 3)) (.cst (.int 1))) (.var 1))) (.nm 3) (.rg1 (.var 1)) [])]))] []), (.ret (.ite (.cmp .lt (.var 2) (.cst (.int 3))) (.call 17 [(.var 0), (.var 1)]) (.bi .tuple1 [(.lrg (.var 1))])))]
/-! 19 _law_net(_law_m, _law_most, _law_deep) slots _law_m _law_most _law_deep _law_bits_so _law_row -/
def b19 : List CS := [(.asg (.nm 3) (.bin .add (.cst (.int 1)) (.call 13 [(.var 0), (.var 1)]))), (.ret (.tup [(false, (.var 3)), (false, (.bi .tuple1 [(.lc [4] (.call 18 [(.var 0), (.call 16 [(.var 3)])]) (.nm 4) (.rg1 (.call 13 [(.var 0), (.var 2)])) [])]))]))]
/-! 20 _law_ways(_law_net_here, _law_one, _law_other) slots _law_net_here _law_one _law_other _law_found _law_row _law_longer _law_way _law_here _law_side -/
def b20 : List CS := [(.asg (.nm 3) (.lst [(.tup [(false, (.var 1))])])), (.for_ (.nm 4) (.rg1 (.bin .add (.bi .len [(.sub (.var 0) (.cst (.int 1)))]) (.cst (.int 1)))) [(.asg (.nm 5) (.lst [])), (.for_ (.nm 6) (.ex (.var 3)) [(.asg (.nm 7) (.ite (.cmp .eq (.var 4) (.cst (.int 0))) (.sub (.var 6) (.neg (.cst (.int 1)))) (.sub (.sub (.sub (.var 0) (.cst (.int 1))) (.bin .sub (.var 4) (.cst (.int 1)))) (.sub (.var 6) (.neg (.cst (.int 1))))))), (.asg (.nm 5) (.bin .add (.var 5) (.lc [8] (.bin .add (.var 6) (.tup [(false, (.bin .add (.bin .mul (.cst (.int 2)) (.bin .fdiv (.var 7) (.cst (.int 2)))) (.var 8)))])) (.nm 8) (.ex (.tup [(false, (.cst (.int 0))), (false, (.cst (.int 1)))])) [])))]), (.asg (.nm 3) (.var 5))]), (.ret (.bi .sorted1 [(.lc [6] (.var 6) (.nm 6) (.ex (.var 3)) [(.cmp .eq (.sub (.var 6) (.neg (.cst (.int 1)))) (.var 2))])]))]
/-! 21 _law_back(_law_net_here, _law_way) slots _law_net_here _law_way _law_found _law_row -/
def b21 : List CS := [(.asg (.nm 2) (.lst [(.sub (.var 1) (.neg (.cst (.int 1))))])), (.for_ (.nm 3) (.rg3 (.bin .sub (.bi .len [(.var 1)]) (.cst (.int 2))) (.neg (.cst (.int 1))) (.neg (.cst (.int 1)))) [(.ex (.met .append (.var 2) [(.ite (.cmp .eq (.var 3) (.cst (.int 0))) (.sub (.var 1) (.var 3)) (.sub (.sub (.sub (.var 0) (.cst (.int 1))) (.bin .sub (.var 3) (.cst (.int 1)))) (.sub (.var 1) (.var 3))))]))]), (.ret (.bi .tuple1 [(.var 2)]))]
/-! 22 _law_right(_law_net_here, _law_spots) slots _law_net_here _law_spots _law_got _law_one _law_many _law_deep _law_far _law_total _law_other _law_due _law_back_here _law_way -/
def b22 : List CS := [(.par [4, 5, 6] [(.call 16 [(.sub (.var 0) (.cst (.int 0)))]), (.bin .add (.bi .len [(.sub (.var 0) (.cst (.int 1)))]) (.cst (.int 1))), (.call 7 [(.var 0)])]), (.asg (.nm 2) (.lst [(.call 5 [(.var 0)]), (.call 6 [(.var 0)]), (.call 7 [(.var 6)]), (.call 6 [(.var 6)])])), (.ife (.not_ (.call 15 [(.var 2), (.lst [(.var 4), (.var 5), (.var 0), (.var 5)])])) [(.ret (.cst (.bl false)))] []), (.for_ (.nm 3) (.ex (.var 1)) [(.asg (.nm 7) (.cst (.int 0))), (.for_ (.nm 8) (.rg1 (.var 4)) [(.asg (.nm 9) (.call 20 [(.var 0), (.var 3), (.var 8)])), (.asg (.nm 7) (.bin .add (.var 7) (.bi .len [(.var 9)]))), (.asg (.nm 10) (.bi .tuple1 [(.bi .sorted1 [(.lc [11] (.call 21 [(.var 0), (.var 11)]) (.nm 11) (.ex (.var 9)) [])])])), (.asg (.nm 2) (.lst [(.call 10 [(.var 0), (.var 3), (.var 8)]), (.call 10 [(.var 0), (.var 3), (.var 8)]), (.call 10 [(.var 6), (.var 8), (.var 3)])])), (.ife (.not_ (.call 15 [(.var 2), (.lst [(.bi .tuple1 [(.var 9)]), (.bi .tuple1 [(.var 9)]), (.var 10)])])) [(.ret (.cst (.bl false)))] [])]), (.ife (.cmp .ne (.var 7) (.call 16 [(.var 5)])) [(.ret (.cst (.bl false)))] [])]), (.ret (.cst (.bl true)))]
/-! 23 law(_law_script) slots _law_script _law_m _law_turn _law_told _law_due _law_net_here _law_spots _law_kept_so _law_many -/
def b23 : List CS := [(.asg (.nm 1) (.call 14 [(.var 0)])), (.for_ (.nm 2) (.rg1 (.bin .add (.cst (.int 1)) (.bi .min2 [(.bi .len [(.var 0)]), (.cst (.int 2))]))) [(.asg (.nm 5) (.call 19 [(.var 1), (.cst (.int 3)), (.cst (.int 4))])), (.par [7, 8] [(.bi .repr1 [(.var 5)]), (.call 16 [(.sub (.var 5) (.cst (.int 0)))])]), (.asg (.nm 6) (.ite (.cmp .lt (.var 8) (.cst (.int 5))) (.lrg (.var 8)) (.lst [(.call 13 [(.var 1), (.var 8)])]))), (.ife (.or_ [(.not_ (.call 22 [(.var 5), (.var 6)])), (.cmp .ne (.bi .repr1 [(.var 5)]) (.var 7))]) [(.ret (.cst (.bl false)))] [])]), (.asg (.nm 3) (.lst [(.call 10 [(.tup [(false, (.cst (.int 1))), (false, (.tup []))]), (.cst (.int 0)), (.cst (.int 1))]), (.call 10 [(.tup [(false, (.cst (.int 2))), (false, (.tup [(false, (.tup [(false, (.cst (.int 0))), (false, (.cst (.int 2))), (false, (.cst (.int 1))), (false, (.cst (.int 3)))]))]))]), (.cst (.int 0)), (.cst (.int 3))]), (.call 10 [(.tup [(false, (.cst (.int 2))), (false, (.tup [(false, (.tup [(false, (.cst (.int 0))), (false, (.cst (.int 1))), (false, (.cst (.int 2))), (false, (.cst (.int 3)))]))]))]), (.cst (.int 0)), (.cst (.int 3))])])), (.asg (.nm 3) (.bin .add (.var 3) (.lst [(.call 10 [(.tup [(false, (.cst (.int 1))), (false, (.tup [(false, (.tup [(false, (.cst (.int 0))), (false, (.cst (.int 1)))]))]))]), (.cst (.int 0)), (.cst (.int 0))]), (.call 7 [(.tup [(false, (.cst (.int 2))), (false, (.tup [(false, (.tup [(false, (.cst (.int 1))), (false, (.cst (.int 2))), (false, (.cst (.int 3))), (false, (.cst (.int 0)))])), (false, (.tup [(false, (.cst (.int 0))), (false, (.cst (.int 2))), (false, (.cst (.int 1))), (false, (.cst (.int 3)))]))]))])])]))), (.asg (.nm 4) (.lst [(.tup [(false, (.tup [(false, (.cst (.int 0))), (false, (.cst (.int 1)))]))]), (.tup [(false, (.tup [(false, (.cst (.int 0))), (false, (.cst (.int 1))), (false, (.cst (.int 3)))]))]), (.tup []), (.tup [(false, (.tup [(false, (.cst (.int 0))), (false, (.cst (.int 0))), (false, (.cst (.int 0)))])), (false, (.tup [(false, (.cst (.int 0))), (false, (.cst (.int 1))), (false, (.cst (.int 0)))]))]), (.tup [(false, (.cst (.int 2))), (false, (.tup [(false, (.tup [(false, (.cst (.int 0))), (false, (.cst (.int 2))), (false, (.cst (.int 1))), (false, (.cst (.int 3)))])), (false, (.tup [(false, (.cst (.int 3))), (false, (.cst (.int 0))), (false, (.cst (.int 1))), (false, (.cst (.int 2)))]))]))])])), (.ret (.call 15 [(.var 3), (.var 4)]))]
def T : Tab := [⟨3, 3, b0⟩, ⟨2, 3, b1⟩, ⟨1, 3, b2⟩, ⟨1, 1, b3⟩, ⟨1, 1, b4⟩, ⟨1, 1, b5⟩, ⟨1, 1, b6⟩, ⟨1, 3, b7⟩, ⟨2, 2, b8⟩, ⟨3, 12, b9⟩, ⟨3, 3, b10⟩, ⟨2, 3, b11⟩, ⟨1, 4, b12⟩, ⟨2, 6, b13⟩, ⟨1, 3, b14⟩, ⟨2, 2, b15⟩, ⟨1, 3, b16⟩, ⟨2, 4, b17⟩, ⟨2, 4, b18⟩, ⟨3, 5, b19⟩, ⟨3, 9, b20⟩, ⟨2, 4, b21⟩, ⟨2, 12, b22⟩, ⟨1, 9, b23⟩]
end K02

/-! KA: nets, by values -/
namespace K02
open Ez Ez2
def dI (w : List Nat) : D := .tup (w.map fun (n : Nat) => D.int n)
def dNet (b : Nat) (ws : List (List Nat)) : D := .tup [.int b, .tup (ws.map dI)]
theorem norefs_ints (w : List Nat) : norefs (w.map fun (n : Nat) => D.int n) = true := by
  induction w with
  | nil => simp [norefs]
  | cons a r ih => simp [norefs, noref, ih]
theorem noref_dI (w : List Nat) : noref (dI w) = true := by simp [dI, noref, norefs_ints]
theorem norefs_dI (ws : List (List Nat)) : norefs (ws.map dI) = true := by
  induction ws with
  | nil => simp [norefs]
  | cons a r ih => simp [norefs, noref_dI, ih]
theorem noref_net (b : Nat) (ws : List (List Nat)) : noref (dNet b ws) = true := by simp [dNet, noref, norefs, norefs_dI]
structure NetOk (b : Nat) (ws : List (List Nat)) : Prop where
  b1 : 1 ≤ b
  b3 : b ≤ 3
  w3 : ws.length ≤ 3
  p : ∀ w ∈ ws, w.Perm (List.range (2 ^ b))
theorem pow8 {b : Nat} (h : b ≤ 3) : 2 ^ b ≤ 8 := Nat.pow_le_pow_right (by decide) h
theorem c3 (l : Nat) (h : Hh) {b m : Nat} {ws : List (List Nat)} (hb : b ≤ 3) (hm : m = 2 ^ b) : docall (lim T) l 3 [dNet b ws] h = some (.int (m : Int), h) := by
  subst hm
  refine docall_val (h' := []) (by simp [norefs, noref_net]) ?_ rfl
  rw [ca_eq (F := ⟨1, 1, b3⟩) rfl rfl]
  have : (b : Int) ≤ 1000000 := by omega
  simp [b3, start, dNet, subscr, ixN, binop, this]
theorem c4 (l : Nat) (h : Hh) {b : Nat} {ws : List (List Nat)} : docall (lim T) l 4 [dNet b ws] h = some (.int ((ws.length + 1 : Nat) : Int), h) := by
  refine docall_val (h' := []) (by simp [norefs, noref_net]) ?_ rfl
  rw [ca_eq (F := ⟨1, 1, b4⟩) rfl rfl]
  simp [b4, start, dNet, subscr, ixN, binop, bi]
theorem c0 (l : Nat) (h : Hh) (x a c : Int) : docall (lim T) l 0 [.int x, .int a, .int c] h = some (.bl (decide (a ≤ x) && decide (x ≤ c)), h) := by
  refine docall_val (h' := []) (by simp [norefs, noref]) ?_ rfl
  rw [ca_eq (F := ⟨3, 3, b0⟩) rfl rfl]
  simp [b0, start, isTy, truth, cmpop]
  by_cases h1 : a ≤ x <;> simp [h1]
theorem perm_len {m : Nat} {w : List Nat} (p : w.Perm (List.range m)) : w.length = m := by simpa using p.length_eq
theorem perm_lt {m : Nat} {w : List Nat} (p : w.Perm (List.range m)) : ∀ x ∈ w, x < m := fun x hx => by simpa using p.mem_iff.mp hx
theorem perm_nd {m : Nat} {w : List Nat} (p : w.Perm (List.range m)) : w.Nodup := p.nodup_iff.mpr List.nodup_range
theorem c1 (l : Nat) (h : Hh) {m : Nat} {w : List Nat} (p : w.Perm (List.range m)) (hm : m ≤ 8) : docall (lim T) (l + 1) 1 [dI w, .int (m : Int)] h = some (.bl true, h) := by
  have hl := perm_len p
  have hS : w.length < SL := by unfold SL; omega
  obtain ⟨e, he⟩ := e_lcm (T := T) (l := l + 1) (g := .nm 2) (own := [2]) (elt := .call 0 [.var 2, .cst (.int 0), .bin .sub (.var 1) (.cst (.int 1))]) (it := .ex (.var 0)) (σ := [some (dI w), some (.int (m : Int)), none]) (h := []) (h0 := [])
    (xs := w) (fun (n : Nat) => D.int n) (fun _ => .bl true) (by simp [dI, srcOf]) (by
      intro n hn h _ _
      have := perm_lt p n hn
      refine ⟨[some (dI w), some (.int (m : Int)), some (.int n)], [], by simp [wipe], ?_⟩
      have h1 : (n : Int) ≤ (m : Int) - 1 := by omega
      simp [binop, c0, h1]) (by simpa using hS)
  have hd := dc_it (T := T) (l := l + 1) (g := .nm 2) (ifs := []) (k := .var 2) (v := .cst (.bl true)) (σ := wipe [some (dI w), some (.int (m : Int)), none] [2]) (n := (e.length + 1)) (fun x => x) (fun _ => .bl true) (w.map fun (n : Nat) => D.int n) [] ((O.lst (List.replicate w.length (.bl true)) :: e) ++ [.dK []])
    (by
      intro x hx h
      obtain ⟨n, hn, rfl⟩ := List.mem_map.mp hx
      exact ⟨[some (dI w), some (.int (m : Int)), some (.int n)], by simp [wipe], by simp, by simp, by simp⟩) (by
      intro x hx
      obtain ⟨n, hn, rfl⟩ := List.mem_map.mp hx
      rfl) (by simp) (by simpa using hS)
  rw [List.map_const'] at he
  rw [fold_ints (.bl true) w [] (perm_nd p) (by simp)] at hd
  have e1 : ∃ h', lim T .ca (l + 1, 1, [dI w, .int (m : Int)], []) = some (.bl true, h') := by
    refine ⟨((O.lst (List.replicate w.length (.bl true)) :: e) ++ [O.dK []]).set (e.length + 1) (O.dK ([] ++ w.map fun (n : Nat) => (D.int n, D.bl true))), ?_⟩
    rw [ca_eq (F := ⟨2, 3, b1⟩) rfl rfl]
    have s0 : start 3 [dI w, .int (m : Int)] = [some (dI w), some (.int (m : Int)), none] := rfl
    simp only [b1, s0]
    rw [ss1, s_ife, t_or2, t_not, t_isi]
    have k1 : lim T .e (l + 1, .isi .tuple (.var 0), [some (dI w), some (.int (m : Int)), none], []) = some (.bl true, []) := by simp [dI, isTy]
    have k2 : lim T .t (l + 1, .cmp .ne (.bi .len [.var 0]) (.var 1), [some (dI w), some (.int (m : Int)), none], []) = some (false, []) := by simp [dI, bi, cmpop, eqD, truth, hl]
    have k3 : lim T .t (l + 1, .bi .all [.lc [2] (.call 0 [.var 2, .cst (.int 0), .bin .sub (.var 1) (.cst (.int 1))]) (.nm 2) (.ex (.var 0)) []], [some (dI w), some (.int (m : Int)), none], []) = some (true, O.lst (List.replicate w.length (.bl true)) :: e) := by
      rw [t_bi, l_bi, l_es1, he]
      simp [bi, getL, asBools_true, truth]
    simp only [k1, Option.bind_some, truth, Bool.not_true, Bool.false_eq_true, if_false]
    rw [t_or2, k2]
    simp only [Option.bind_some, Bool.false_eq_true, if_false]
    rw [t_or1, t_not, k3]
    simp only [Option.bind_some, Bool.not_true, Bool.false_eq_true, if_false, ss0, ss1, s_ret, l_cmp, l_bi, l_es1, l_es0, l_dc, i_ex, l_var]
    simp only [List.getElem?_cons_zero, Option.bind_some, dI, srcOf] at hd ⊢
    simp only [List.length_cons]
    rw [hd]
    simp [bi, cmpop, eqD, hl]
  obtain ⟨h', e1⟩ := e1
  exact docall_val (by simp [norefs, noref, noref_dI]) e1 rfl
end K02

/-! KB: need_net, turned -/
namespace K02
open Ez Ez2
theorem numb_mem : ∀ (ws : List D) (i : Nat) (x : D), x ∈ numb i ws → ∃ (j : Nat) (w : D), w ∈ ws ∧ x = .ptp [.int (j : Nat), w]
  | [], _, _, h => by cases h
  | w :: r, i, x, h => by
    simp only [numb, List.mem_cons] at h
    rcases h with rfl | h
    · exact ⟨i, w, List.mem_cons_self, rfl⟩
    · obtain ⟨j, w', h1, h2⟩ := numb_mem r (i + 1) x h
      exact ⟨j, w', List.mem_cons_of_mem _ h1, h2⟩
theorem c2 (l : Nat) (h : Hh) {b : Nat} {ws : List (List Nat)} (N : NetOk b ws) : docall (lim T) (l + 3) 2 [dNet b ws] h = some (dNet b ws, h) := by
  have hb := N.b3
  have hp := pow8 hb
  obtain ⟨m, hm⟩ : ∃ m, m = 2 ^ b := ⟨_, rfl⟩
  rw [← hm] at hp
  have Np := N.p
  rw [← hm] at Np
  refine docall_val (h' := []) (by simp [norefs, noref_net]) ?_ (noref_net b ws)
  rw [ca_eq (F := ⟨1, 3, b2⟩) rfl rfl]
  obtain ⟨σ', h', e1, q⟩ := fo_it (T := T) (l := l + 3) (g := .tu [.nm 1, .nm 2]) (b := [.ife (.not_ (.call 1 [.var 2, .call 3 [.var 0]])) [.nev] []])
    (fun r σ h => h = [] ∧ (∃ a c, σ = [some (dNet b ws), a, c]) ∧ ∀ x ∈ r, ∃ (j : Nat) (w : List Nat), w.Perm (List.range m) ∧ x = .ptp [.int (j : Nat), dI w]) (by
      rintro x r σ h ⟨rfl, ⟨a, c, rfl⟩, hx⟩
      obtain ⟨j, w, pw, rfl⟩ := hx x List.mem_cons_self
      refine ⟨([some (dNet b ws), some (.int (j : Nat)), some (dI w)], []), [some (dNet b ws), some (.int (j : Nat)), some (dI w)], [], by simp, ?_, rfl, ⟨_, _, rfl⟩, fun y hy => hx y (List.mem_cons_of_mem _ hy)⟩
      simp [c3 _ _ hb hm, c1 _ _ pw hp, truth]) (numb 0 (ws.map dI)) [some (dNet b ws), none, none] [] ⟨rfl, ⟨_, _, rfl⟩, fun x hx => by
      obtain ⟨j, w, hw, rfl⟩ := numb_mem _ _ x hx
      obtain ⟨w', hw', rfl⟩ := List.mem_map.mp hw
      exact ⟨j, w', Np w' hw', rfl⟩⟩
  obtain ⟨rfl, ⟨a, c, rfl⟩, _⟩ := q
  have s0 : start 3 [dNet b ws] = [some (dNet b ws), none, none] := rfl
  have k0 := c0 (l + 2) [] (b : Int) 1 3
  have h1 : (1 : Int) ≤ b := by have := N.b1; omega
  have h2 : (b : Int) ≤ 3 := by omega
  have h3 : ¬ (3 : Int) < (ws.length : Nat) := by have := N.w3; omega
  have k0 : lim T .t (l + 3, .not_ (.call 0 [.sub (.var 0) (.cst (.int 0)), .cst (.int 1), .glb (.int 3)]), [some (dNet b ws), none, none], []) = some (false, []) := by
    have : dNet b ws = .tup [.int b, .tup (ws.map dI)] := rfl
    simp [this, subscr, ixN, c0, truth, h1, h2]
  have k1 : lim T .t (l + 3, .or_ [.not_ (.isi .tuple (.var 0)), .cmp .ne (.bi .len [.var 0]) (.cst (.int 2))], [some (dNet b ws), none, none], []) = some (false, []) := by
    simp [dNet, isTy, truth, bi, cmpop, eqD]
  have k2 : lim T .t (l + 3, .or_ [.not_ (.isi .tuple (.sub (.var 0) (.cst (.int 1)))), .cmp .gt (.bi .len [.sub (.var 0) (.cst (.int 1))]) (.glb (.int 3))], [some (dNet b ws), none, none], []) = some (false, []) := by
    simp [dNet, isTy, truth, bi, cmpop, eqD, subscr, ixN, h3]
  have k3 : lim T .ci (l + 3, .en (.sub (.var 0) (.cst (.int 1))), [some (dNet b ws), none, none], []) = some (.it (numb 0 (ws.map dI)), []) := by
    simp [dNet, subscr, ixN, srcEn]
  simp only [s0, b2, ss1, ss0, s_ife, s_for, s_ret, k0, k1, k2, k3, e1, Option.bind_some, Bool.false_eq_true, if_false, l_var, List.getElem?_cons_zero]
theorem c5 (l : Nat) (h : Hh) {b m : Nat} {ws : List (List Nat)} (N : NetOk b ws) (hm : m = 2 ^ b) : docall (lim T) (l + 4) 5 [dNet b ws] h = some (.int (m : Int), h) := by
  refine docall_val (h' := []) (by simp [norefs, noref_net]) ?_ rfl
  rw [ca_eq (F := ⟨1, 1, b5⟩) rfl rfl]
  simp [b5, start, c2 l _ N, c3 _ _ N.b3 hm]
theorem c6 (l : Nat) (h : Hh) {b : Nat} {ws : List (List Nat)} (N : NetOk b ws) : docall (lim T) (l + 4) 6 [dNet b ws] h = some (.int ((ws.length + 1 : Nat) : Int), h) := by
  refine docall_val (h' := []) (by simp [norefs, noref_net]) ?_ rfl
  rw [ca_eq (F := ⟨1, 1, b6⟩) rfl rfl]
  simp [b6, start, c2 l _ N, c4]
theorem c8 (l : Nat) (h : Hh) {b m : Nat} {ws : List (List Nat)} {s : Nat} (hb : b ≤ 3) (hm : m = 2 ^ b) (hs : s < m) : docall (lim T) (l + 1) 8 [dNet b ws, .int (s : Int)] h = some (.non, h) := by
  refine docall_val (h' := []) (by simp [norefs, noref_net, noref]) ?_ rfl
  rw [ca_eq (F := ⟨2, 2, b8⟩) rfl rfl]
  have : (s : Int) ≤ (m : Int) - 1 := by omega
  simp [b8, start, c3 _ _ hb hm, binop, c0, truth, this]
/-- the order the other way round -/
def inv (w : List Nat) : List Nat := (List.range w.length).map fun k => w.idxOf k
theorem tail7 (l : Nat) (σ0 : Option D) {w : List Nat} (hw : ∀ k, k < w.length → k ∈ w) (h : Hh) (hS : w.length < 100) :
    ∃ e, lim T .e (l, .bi .tuple1 [.lc [2] (.met .index (.var 1) [.var 2]) (.nm 2) (.rg1 (.bi .len [.var 1])) []], [σ0, some (dI w), none], h) = some (dI (inv w), h ++ e) := by
  obtain ⟨e, he⟩ := e_lcm (T := T) (l := l) (g := .nm 2) (own := [2]) (elt := .met .index (.var 1) [.var 2]) (it := .rg1 (.bi .len [.var 1])) (σ := [σ0, some (dI w), none]) (h := h) (h0 := h)
    (xs := List.range w.length) (fun (i : Nat) => D.int i) (fun k => .int (w.idxOf k : Nat)) (i_rg1n (by simp [dI, bi]) (by omega)) (by
      intro k hk h' _ _
      have hk' := hw k (by simpa using hk)
      have hk2 : (k : Int) ∈ w.map fun (n : Nat) => (n : Int) := List.mem_map.mpr ⟨k, hk', rfl⟩
      refine ⟨[σ0, some (dI w), some (.int k)], [], by simp [wipe], ?_⟩
      have k1 : metT .index (w.map fun (n : Nat) => D.int n) [.int (k : Int)] h' = some (.int (w.idxOf k : Nat), h') := by
        simp only [metT, asInts_map, Option.bind_some, contains_map, hk', decide_true, if_true, idx_map]
      simp [dI, rcv, met, k1]) (SL_of (by simp; omega))
  refine ⟨O.lst ((inv w).map fun (n : Nat) => D.int n) :: e, ?_⟩
  rw [l_bi, l_es1, he]
  have : ((List.range w.length).map fun k => D.int (w.idxOf k : Nat)) = (inv w).map fun (n : Nat) => D.int n := by
    unfold inv
    rw [List.map_map]
    rfl
  simp [bi, seqOf, getL, this, dI]
theorem nodup_map {α β : Type} {f : α → β} : ∀ {l : List α}, (∀ x ∈ l, ∀ y ∈ l, f x = f y → x = y) → l.Nodup → (l.map f).Nodup
  | [], _, _ => List.nodup_nil
  | a :: r, hf, hn => by
    rw [List.nodup_cons] at hn
    rw [List.map_cons, List.nodup_cons]
    refine ⟨fun h => ?_, nodup_map (fun x hx y hy => hf x (List.mem_cons_of_mem _ hx) y (List.mem_cons_of_mem _ hy)) hn.2⟩
    obtain ⟨b, hb, e⟩ := List.mem_map.mp h
    have := hf b (List.mem_cons_of_mem _ hb) a List.mem_cons_self e
    subst this
    exact hn.1 hb
theorem inv_get {w : List Nat} {k : Nat} (hk : k < w.length) : (inv w)[k]? = some (w.idxOf k) := by
  unfold inv
  simp [hk]
theorem inv_ok {m : Nat} {w : List Nat} (p : w.Perm (List.range m)) : (inv w).Perm (List.range m) := by
  have hl := perm_len p
  have nd := perm_nd p
  have mem : ∀ k, k < m → k ∈ w := fun k hk => p.mem_iff.mpr (by simpa using hk)
  refine (List.perm_ext_iff_of_nodup ?_ List.nodup_range).mpr fun a => ?_
  · unfold inv
    rw [hl]
    refine nodup_map ?_ List.nodup_range
    intro x hx y hy e
    have h1 := List.getElem_idxOf (List.idxOf_lt_length_of_mem (mem x (by simpa using hx)))
    have h2 := List.getElem_idxOf (List.idxOf_lt_length_of_mem (mem y (by simpa using hy)))
    rw [← h1, ← h2]
    simp only [e]
  · unfold inv
    rw [hl]
    simp only [List.mem_map, List.mem_range]
    constructor
    · rintro ⟨k, hk, rfl⟩
      have := List.idxOf_lt_length_of_mem (mem k hk)
      omega
    · intro ha
      have hlt : a < w.length := by omega
      refine ⟨w[a], perm_lt p _ (List.getElem_mem hlt), ?_⟩
      exact nd.idxOf_getElem a hlt
theorem c7 (l : Nat) (h : Hh) {b : Nat} {ws : List (List Nat)} (N : NetOk b ws) : docall (lim T) (l + 4) 7 [dNet b ws] h = some (dNet b ((ws.map inv).reverse), h) := by
  have hw3 := N.w3
  have hp := pow8 N.b3
  have mem : ∀ w ∈ ws, ∀ k, k < w.length → k ∈ w := fun w hw k hk => by
    have p := N.p w hw
    rw [perm_len p] at hk
    exact p.mem_iff.mpr (by simpa using hk)
  obtain ⟨e, he⟩ := e_lcm (T := T) (l := l + 4) (g := .nm 1) (own := [1]) (elt := .bi .tuple1 [.lc [2] (.met .index (.var 1) [.var 2]) (.nm 2) (.rg1 (.bi .len [.var 1])) []]) (it := .ex (.rev (.sub (.var 0) (.cst (.int 1))))) (σ := [some (dNet b ws), none, none]) (h := []) (h0 := [])
    (xs := ws.reverse) dI (fun w => dI (inv w)) (by simp [dNet, subscr, ixN, srcOf]) (by
      intro w hw h' _ _
      rw [List.mem_reverse] at hw
      obtain ⟨e, he⟩ := tail7 (l + 4) (some (dNet b ws)) (mem w hw) h' (by rw [perm_len (N.p w hw)]; omega)
      exact ⟨[some (dNet b ws), some (dI w), none], e, by simp [wipe], he⟩) (SL_of (by simp; omega))
  refine docall_val (by simp [norefs, noref_net]) (h' := O.lst ((ws.map inv).reverse.map dI) :: e) ?_ (noref_net _ _)
  rw [ca_eq (F := ⟨1, 3, b7⟩) rfl rfl]
  have s0 : start 3 [dNet b ws] = [some (dNet b ws), none, none] := rfl
  have hx : (ws.reverse.map fun w => dI (inv w)) = (ws.map inv).reverse.map dI := by
    rw [← List.map_reverse, List.map_map]
    rfl
  rw [hx] at he
  have k0 : lim T .e (l + 4, .call 2 [.var 0], [some (dNet b ws), none, none], []) = some (dNet b ws, []) := by
    rw [l_call]
    simp [c2 l _ N]
  have k1 : lim T .e (l + 4, .sub (.var 0) (.cst (.int 0)), [some (dNet b ws), none, none], []) = some (.int b, []) := by
    simp [dNet, subscr, ixN]
  have hl2 : 2 ≤ SL := SL_le (by decide)
  simp only [s0, b7, ss1, ss0, s_ex, k0, Option.bind_some, s_ret, l_tup, l_sp1, l_sp0, k1, l_bi, l_es1, l_es0, he]
  simp [bi, seqOf, getL, dNet, hl2]
end K02

/-! KC: all ways -/
namespace K02
open Ez Ez2
/-! ### keys -/
theorem keqs_ints : ∀ a b : List Nat, keqs (a.map fun (n : Nat) => D.int n) (b.map fun (n : Nat) => D.int n) = decide (a = b)
  | [], [] => by simp [keqs]
  | [], y :: ys => by simp [keqs]
  | x :: xs, [] => by simp [keqs]
  | x :: xs, y :: ys => by
    simp only [List.map_cons, keqs, keqT, keqs_ints xs ys]
    rw [Bool.eq_iff_iff]
    simp only [Bool.and_eq_true, beq_iff_eq, decide_eq_true_eq, List.cons.injEq]
    constructor
    · rintro ⟨h1, h2⟩
      exact ⟨by omega, h2⟩
    · rintro ⟨h1, h2⟩
      exact ⟨by omega, h2⟩
theorem keqT_dI (a b : List Nat) : keqT (dI a) (dI b) = decide (a = b) := by
  simp only [dI, keqT, keqs_ints]
def AllK (kvs : List (D × D)) : Prop := ∀ p ∈ kvs, ∃ a, p.1 = dI a
theorem AllK.put {kvs : List (D × D)} {a : List Nat} {v : D} (h : AllK kvs) : AllK (putV keqT (dI a) v kvs) := by
  intro p hp
  unfold putV at hp
  split at hp
  · obtain ⟨q, hq, rfl⟩ := List.mem_map.mp hp
    split
    · exact h q hq
    · exact h q hq
  · rcases List.mem_append.mp hp with hp | hp
    · exact h p hp
    · cases List.mem_singleton.mp hp
      exact ⟨a, rfl⟩
theorem find_map {a b : List Nat} {v : D} : ∀ kvs : List (D × D), AllK kvs → findV keqT (dI b) (kvs.map fun p => if keqT p.1 (dI a) = true then (p.1, v) else p) = if a = b then (if (kvs.any fun p => keqT p.1 (dI a)) = true then some v else none) else findV keqT (dI b) kvs
  | [], _ => by simp [findV]
  | (x, y) :: r, h => by
    obtain ⟨c, hc⟩ := h (x, y) List.mem_cons_self
    simp only at hc
    subst hc
    have ih := find_map (a := a) (b := b) (v := v) r fun p hp => h p (List.mem_cons_of_mem _ hp)
    simp only [List.map_cons, List.any_cons, keqT_dI, decide_eq_true_eq] at ih ⊢
    by_cases h1 : c = a
    · subst h1
      by_cases h2 : c = b
      · simp [findV, keqT_dI, h2]
      · simp only [h2, if_false] at ih
        simp only [if_true, findV, keqT_dI, h2, decide_false, Bool.false_eq_true, if_false, ih]
    · by_cases h2 : a = b
      · subst h2
        simp only [if_true] at ih
        simp only [h1, if_false, findV, keqT_dI, decide_false, Bool.false_eq_true, ih, if_true, Bool.false_or]
      · simp only [h2, if_false] at ih
        simp only [h1, h2, if_false, findV, ih]
theorem find_app {b : List Nat} {k v : D} : ∀ kvs : List (D × D), findV keqT (dI b) (kvs ++ [(k, v)]) = (findV keqT (dI b) kvs).or (if keqT k (dI b) = true then some v else none)
  | [] => by simp [findV]
  | (x, y) :: r => by
    simp only [List.cons_append, findV]
    split
    · simp
    · exact find_app r
theorem find_none {a : List Nat} : ∀ kvs : List (D × D), (kvs.any fun p => keqT p.1 (dI a)) = false → findV keqT (dI a) kvs = none
  | [], _ => rfl
  | (x, y) :: r, h => by
    simp only [List.any_cons, Bool.or_eq_false_iff] at h
    simp only [findV, h.1, Bool.false_eq_true, if_false]
    exact find_none r h.2
theorem find_put {a b : List Nat} {v : D} {kvs : List (D × D)} (h : AllK kvs) : findV keqT (dI b) (putV keqT (dI a) v kvs) = if a = b then some v else findV keqT (dI b) kvs := by
  unfold putV
  split
  · rename_i q
    rw [find_map kvs h, q]
    simp
  · rename_i q
    rw [find_app]
    by_cases e : a = b
    · subst e
      rw [find_none kvs (by simpa using q)]
      simp [keqT_dI]
    · simp [keqT_dI, e]
theorem keyT_dI (a : List Nat) : keyT (dI a) = true := by
  simp only [dI, keyT, List.all_map, List.all_eq_true]
  intro x hx
  simp [keyN]
/-! ### the ways -/
/-- the wire by which a way enters a row -/
def ent (ws : List (List Nat)) : Nat → List Nat → Nat
  | 0, way => way.getLastD 0
  | r + 1, way => if r < ws.length then (ws.getD r []).getD (way.getLastD 0) 0 else way.getLastD 0
def two (ws : List (List Nat)) (r : Nat) (way : List Nat) : List (List Nat) := [way ++ [ent ws r way - ent ws r way % 2], way ++ [ent ws r way - ent ws r way % 2 + 1]]
def go (ws : List (List Nat)) (one : Nat) : Nat → List (List Nat)
  | 0 => [[one]]
  | r + 1 => (go ws one r).flatMap (two ws r)
theorem go_len (ws : List (List Nat)) (one : Nat) : ∀ r, (go ws one r).length = 2 ^ r
  | 0 => rfl
  | r + 1 => by
    have : ∀ L : List (List Nat), (L.flatMap (two ws r)).length = 2 * L.length := by
      intro L
      induction L with
      | nil => rfl
      | cons a t ih =>
        rw [List.flatMap_cons, List.length_append, ih]
        simp [two]
        omega
    rw [go, this, go_len ws one r]
    omega
theorem go_way {ws : List (List Nat)} {one : Nat} : ∀ r, ∀ way ∈ go ws one r, way.length = r + 1
  | 0, way, h => by
    simp [go] at h
    subst h
    rfl
  | r + 1, way, h => by
    simp only [go, List.mem_flatMap] at h
    obtain ⟨p, hp, hw⟩ := h
    have := go_way r p hp
    simp only [two, List.mem_cons, List.not_mem_nil, or_false] at hw
    rcases hw with rfl | rfl <;> simp [this]
theorem lastD_app (w : List Nat) (x : Nat) : (w ++ [x]).getLastD 0 = x := by
  rw [List.getLastD_eq_getLast?]
  simp
/-- all wires are numbers below m, an even number -/
theorem ent_lt {b : Nat} {ws : List (List Nat)} (N : NetOk b ws) {r : Nat} {way : List Nat} (h : way.getLastD 0 < 2 ^ b) : ent ws r way < 2 ^ b := by
  cases r with
  | zero => exact h
  | succ r =>
    simp only [ent]
    split
    · rename_i hr
      rw [List.getD_eq_getElem?_getD, List.getD_eq_getElem?_getD]
      have hw : ws[r]?.getD [] ∈ ws := by
        rw [List.getElem?_eq_getElem hr]
        exact List.getElem_mem hr
      have p := N.p _ hw
      have hl := perm_len p
      rw [List.getElem?_eq_getElem (by omega)]
      exact perm_lt p _ (List.getElem_mem _)
    · exact h
theorem even_pow {b : Nat} (h : 1 ≤ b) : 2 ^ b % 2 = 0 := by
  obtain ⟨k, rfl⟩ : ∃ k, b = k + 1 := ⟨b - 1, by omega⟩
  rw [Nat.pow_succ]
  omega
theorem go_lt {b : Nat} {ws : List (List Nat)} (N : NetOk b ws) {one : Nat} (h1 : one < 2 ^ b) : ∀ r, ∀ way ∈ go ws one r, ∀ x ∈ way, x < 2 ^ b
  | 0, way, h, x, hx => by
    simp [go] at h
    subst h
    simp at hx
    omega
  | r + 1, way, h, x, hx => by
    simp only [go, List.mem_flatMap] at h
    obtain ⟨p, hp, hw⟩ := h
    have ih := go_lt N h1 r p hp
    have hlen := go_way r p hp
    have hne : p ≠ [] := fun e => by rw [e] at hlen; simp at hlen
    have hl : p.getLastD 0 < 2 ^ b := by
      rw [List.getLastD_eq_getLast?, List.getLast?_eq_getLast hne]
      exact ih _ (List.getLast_mem hne)
    have he := ent_lt N (r := r) hl
    have hv := even_pow N.b1
    simp only [two, List.mem_cons, List.not_mem_nil, or_false] at hw
    rcases hw with rfl | rfl
    · rcases List.mem_append.mp hx with hx | hx
      · exact ih x hx
      · simp at hx
        omega
    · rcases List.mem_append.mp hx with hx | hx
      · exact ih x hx
      · simp at hx
        omega
end K02

/-! KD: ways_in -/
namespace K02
open Ez Ez2
def inn : List CS := [(.asg (.nm 11) (.tup [(true, (.var 6)), (false, (.var 10))])), (.ex (.met .append (.var 7) [(.var 11)])), (.asg (.sb (.var 8) (.var 11)) (.ite (.cmp .lt (.var 3) (.bi .len [(.sub (.var 0) (.cst (.int 1)))])) (.sub (.sub (.sub (.var 0) (.cst (.int 1))) (.var 3)) (.var 10)) (.var 10)))]
def mid : List CS := [(.asg (.nm 9) (.sub (.var 5) (.var 6))), (.for_ (.nm 10) (.ex (.tup [(false, (.bin .sub (.var 9) (.bin .mod (.var 9) (.cst (.int 2))))), (false, (.bin .add (.bin .sub (.var 9) (.bin .mod (.var 9) (.cst (.int 2)))) (.cst (.int 1))))])) inn)]
def outr : List CS := [(.par [7, 8] [(.lst []), .dnt]), (.for_ (.nm 6) (.ex (.var 4)) mid), (.par [4, 5] [(.var 7), (.var 8)])]
theorem b9_eq : b9 = [(.par [4, 5] [(.lst [(.tup [(false, (.var 1))])]), (.dst1 (.tup [(false, (.var 1))]) (.var 1))]), (.for_ (.nm 3) (.rg1 (.call 4 [(.var 0)])) outr), (.ret (.bi .sorted1 [(.lc [6] (.var 6) (.nm 6) (.ex (.var 4)) [(.cmp .eq (.sub (.var 6) (.neg (.cst (.int 1)))) (.var 2))])]))] := rfl
theorem dI_app (way : List Nat) (x : Nat) : D.tup ((way.map fun (n : Nat) => D.int n) ++ [D.int x]) = dI (way ++ [x]) := by simp [dI]
/-- what stands in the heap -/
structure Ch (k1 k2 : Nat) (h h' : Hh) (acc : List D) (kvs : List (D × D)) : Prop where
  len : h'.length = h.length
  a1 : h'[k1]? = some (.lst acc)
  a2 : h'[k2]? = some (.dT kvs)
  o : ∀ i, i ≠ k1 → i ≠ k2 → h'[i]? = h[i]?
section
variable {b : Nat} {ws : List (List Nat)} {r x k1 k2 l : Nat} {way : List Nat} {h : Hh} {acc : List D} {kvs : List (D × D)} {s1 s2 s4 s5 s9 s11 : Option D}
theorem inn_ok (N : NetOk b ws) (hx : x < 2 ^ b) (hr : r ≤ ws.length) (e1 : h[k1]? = some (.lst acc)) (e2 : h[k2]? = some (.dT kvs)) (hk : k1 ≠ k2) (A : AllK kvs) (ha : acc.length ≤ 100) (hv : kvs.length ≤ 100) (hw : way.length ≤ 100) :
    ∃ h', lim T .ss (l, inn, [some (dNet b ws), s1, s2, some (.int (r : Nat)), s4, s5, some (dI way), some (.ref k1), some (.ref k2), s9, some (.int (x : Nat)), s11], h) =
      some (.nx, [some (dNet b ws), s1, s2, some (.int (r : Nat)), s4, s5, some (dI way), some (.ref k1), some (.ref k2), s9, some (.int (x : Nat)), some (dI (way ++ [x]))], h') ∧
      Ch k1 k2 h h' (acc ++ [dI (way ++ [x])]) (putV keqT (dI (way ++ [x])) (.int (ent ws (r + 1) (way ++ [x]) : Nat)) kvs) := by
  have q1 : lim T .e (l, .tup [(true, (.var 6)), (false, (.var 10))], [some (dNet b ws), s1, s2, some (.int (r : Nat)), s4, s5, some (dI way), some (.ref k1), some (.ref k2), s9, some (.int (x : Nat)), s11], h) = some (dI (way ++ [x]), h) := by
    have hl : way.length + 1 ≤ SL := SL_le (by omega)
    simp [dI, seqOf, hl]
  have hlt1 : k1 < h.length := (List.getElem?_eq_some_iff.mp e1).1
  have hlt2 : k2 < h.length := (List.getElem?_eq_some_iff.mp e2).1
  have hsz : acc.length < SL := SL_of (by omega)
  have hvz : kvs.length < SL := SL_of (by omega)
  refine ⟨(h.set k1 (.lst (acc ++ [dI (way ++ [x])]))).set k2 (.dT (putV keqT (dI (way ++ [x])) (.int (ent ws (r + 1) (way ++ [x]) : Nat)) kvs)), ?_, ⟨by simp, ?_, ?_, ?_⟩⟩
  · have q2 : lim T .e (l, .met .append (.var 7) [.var 11], [some (dNet b ws), s1, s2, some (.int (r : Nat)), s4, s5, some (dI way), some (.ref k1), some (.ref k2), s9, some (.int (x : Nat)), some (dI (way ++ [x]))], h) = some (.non, h.set k1 (.lst (acc ++ [dI (way ++ [x])]))) := by
      simp [rcv, e1, met, metL, getM, hsz]
    have q3 : lim T .e (l, (.ite (.cmp .lt (.var 3) (.bi .len [(.sub (.var 0) (.cst (.int 1)))])) (.sub (.sub (.sub (.var 0) (.cst (.int 1))) (.var 3)) (.var 10)) (.var 10)), [some (dNet b ws), s1, s2, some (.int (r : Nat)), s4, s5, some (dI way), some (.ref k1), some (.ref k2), s9, some (.int (x : Nat)), some (dI (way ++ [x]))], h.set k1 (.lst (acc ++ [dI (way ++ [x])]))) = some (.int (ent ws (r + 1) (way ++ [x]) : Nat), h.set k1 (.lst (acc ++ [dI (way ++ [x])]))) := by
      by_cases hr2 : r < ws.length
      · have p := N.p _ (List.getElem_mem hr2)
        have hlen := perm_len p
        have c1 : (r : Int) < (ws.length : Nat) := by omega
        have c2 : x < ws[r].length := by omega
        have c3 : (x : Int) < (ws[r].length : Nat) := by omega
        simp [dNet, subscr, ixN, bi, cmpop, truth, ent, lastD_app, hr2, c1, dI, c2, c3]
      · have c1 : ¬ (r : Int) < (ws.length : Nat) := by omega
        simp [dNet, subscr, ixN, bi, cmpop, truth, ent, lastD_app, hr2, c1]
    have q4 : (h.set k1 (O.lst (acc ++ [dI (way ++ [x])])))[k2]? = some (.dT kvs) := by rw [List.getElem?_set_ne hk]; exact e2
    unfold inn
    simp only [ss1, ss0, s_asg, s_ex, q1, Option.bind_some, g_nm', g_sb', l_var, List.set_cons_succ, List.set_cons_zero, q2, q3, List.getElem?_cons_succ, List.getElem?_cons_zero]
    simp [store, q4, dput, keyT_dI, hvz]
  · rw [List.getElem?_set_ne (Ne.symm hk), List.getElem?_set_self hlt1]
  · rw [List.getElem?_set_self (by simpa using hlt2)]
  · intro i h1 h2
    rw [List.getElem?_set_ne (Ne.symm h2), List.getElem?_set_ne (Ne.symm h1)]
theorem mid_ok (N : NetOk b ws) {nd : Nat} {kold : List (D × D)} (hw0 : way.getLastD 0 < 2 ^ b) (hr : r ≤ ws.length) (e0 : h[nd]? = some (.dT kold)) (f0 : findV keqT (dI way) kold = some (.int (ent ws r way : Nat))) (e1 : h[k1]? = some (.lst acc)) (e2 : h[k2]? = some (.dT kvs)) (hk : k1 ≠ k2) (hn1 : nd ≠ k1) (hn2 : nd ≠ k2) (A : AllK kvs) (ha : acc.length ≤ 90) (hv : kvs.length ≤ 90) (hw : way.length ≤ 90) {s10 : Option D} :
    ∃ h' kvs' t9 t10 t11, lim T .ss (l, mid, [some (dNet b ws), s1, s2, some (.int (r : Nat)), s4, some (.ref nd), some (dI way), some (.ref k1), some (.ref k2), s9, s10, s11], h) =
      some (.nx, [some (dNet b ws), s1, s2, some (.int (r : Nat)), s4, some (.ref nd), some (dI way), some (.ref k1), some (.ref k2), t9, t10, t11], h') ∧
      Ch k1 k2 h h' (acc ++ (two ws r way).map dI) kvs' ∧ AllK kvs' ∧ kvs'.length ≤ kvs.length + 2 ∧ ∀ w, findV keqT (dI w) kvs' = if w ∈ two ws r way then some (.int (ent ws (r + 1) w : Nat)) else findV keqT (dI w) kvs := by
  have he := ent_lt N (r := r) hw0
  have hev := even_pow N.b1
  obtain ⟨y, hy⟩ : ∃ y, y = ent ws r way := ⟨_, rfl⟩
  rw [← hy] at he f0
  have q1 : lim T .e (l, .sub (.var 5) (.var 6), [some (dNet b ws), s1, s2, some (.int (r : Nat)), s4, some (.ref nd), some (dI way), some (.ref k1), some (.ref k2), s9, s10, s11], h) = some (.int (y : Nat), h) := by
    simp [subscr, e0, dget, keyT_dI, f0]
  have q2 : lim T .ci (l, (.ex (.tup [(false, (.bin .sub (.var 9) (.bin .mod (.var 9) (.cst (.int 2))))), (false, (.bin .add (.bin .sub (.var 9) (.bin .mod (.var 9) (.cst (.int 2)))) (.cst (.int 1))))])), [some (dNet b ws), s1, s2, some (.int (r : Nat)), s4, some (.ref nd), some (dI way), some (.ref k1), some (.ref k2), some (.int (y : Nat)), s10, s11], h) =
      some (.it [.int ((y - y % 2 : Nat) : Int), .int ((y - y % 2 + 1 : Nat) : Int)], h) := by
    have hl : 2 ≤ SL := SL_le (by decide)
    have c1 : (y : Int) - y % 2 = ((y - y % 2 : Nat) : Int) := by omega
    simp [binop, srcOf, hl]
    omega
  obtain ⟨h1, i1, C1⟩ := inn_ok (l := l) (x := y - y % 2) (s1 := s1) (s2 := s2) (s4 := s4) (s5 := some (.ref nd)) (s9 := some (.int (y : Nat))) (s11 := s11) (way := way) N (by omega) hr e1 e2 hk A (by omega) (by omega) (by omega)
  have A1 := A.put (a := way ++ [y - y % 2]) (v := .int (ent ws (r + 1) (way ++ [y - y % 2]) : Nat))
  have L1 := putV_len (eq := keqT) (k := dI (way ++ [y - y % 2])) (v := .int (ent ws (r + 1) (way ++ [y - y % 2]) : Nat)) kvs
  obtain ⟨h2, i2, C2⟩ := inn_ok (l := l) (x := y - y % 2 + 1) (s1 := s1) (s2 := s2) (s4 := s4) (s5 := some (.ref nd)) (s9 := some (.int (y : Nat))) (s11 := some (dI (way ++ [y - y % 2]))) (way := way) N (by omega) hr C1.a1 C1.a2 hk A1 (by simp; omega) (by omega) (by omega)
  have L2 := putV_len (eq := keqT) (k := dI (way ++ [y - y % 2 + 1])) (v := .int (ent ws (r + 1) (way ++ [y - y % 2 + 1]) : Nat)) (putV keqT (dI (way ++ [y - y % 2])) (.int (ent ws (r + 1) (way ++ [y - y % 2]) : Nat)) kvs)
  refine ⟨h2, _, some (.int (y : Nat)), some (.int ((y - y % 2 + 1 : Nat) : Int)), some (dI (way ++ [y - y % 2 + 1])), ?_, ⟨C2.len.trans C1.len, ?_, C2.a2, fun i n1 n2 => (C2.o i n1 n2).trans (C1.o i n1 n2)⟩, A1.put, by omega, fun w => ?_⟩
  · unfold mid
    simp only [ss1, ss0, s_asg, s_for, q1, Option.bind_some, g_nm', List.set_cons_succ, List.set_cons_zero, q2, fo_cons, fo_nil]
    rw [i1]
    simp only [Option.bind_some, g_nm', List.set_cons_succ, List.set_cons_zero]
    rw [i2]
    simp only [Option.bind_some]
  · have := C2.a1
    simp only [two, ← hy, List.map_cons, List.map_nil]
    simpa using this
  · rw [find_put A1, find_put A]
    simp only [two, ← hy, List.mem_cons, List.not_mem_nil, or_false]
    by_cases z1 : way ++ [y - y % 2 + 1] = w
    · subst z1
      simp
    · by_cases z2 : way ++ [y - y % 2] = w
      · subst z2
        simp
      · have z3 : ¬ (w = way ++ [y - y % 2] ∨ w = way ++ [y - y % 2 + 1]) := by
          rintro (z | z)
          · exact z2 z.symm
          · exact z1 z.symm
        rw [if_neg z1, if_neg z2, if_neg z3]
end
end K02

/-! KE: ways_in, to its end -/
namespace K02
open Ez Ez2
section
variable {b : Nat} {ws : List (List Nat)} {l : Nat} {one : Nat}
/-- the state ahead of row r -/
def AtRow (b : Nat) (ws : List (List Nat)) (one : Nat) (s1 s2 : Option D) (r : Nat) (σ : Sg) (h : Hh) : Prop :=
  ∃ nr nd kold s3 s6 s7 s8 s9 s10 s11, σ = [some (dNet b ws), s1, s2, s3, some (.ref nr), some (.ref nd), s6, s7, s8, s9, s10, s11] ∧ h[nr]? = some (.lst ((go ws one r).map dI)) ∧ h[nd]? = some (.dT kold) ∧ nr ≠ nd ∧
    ∀ way ∈ go ws one r, findV keqT (dI way) kold = some (.int (ent ws r way : Nat))
theorem row_ok (N : NetOk b ws) (h1 : one < 2 ^ b) {s1 s2 : Option D} {r : Nat} {σ : Sg} {h : Hh} (hr : r < ws.length + 1) (I : AtRow b ws one s1 s2 r σ h) :
    ∃ σ' h', lim T .ss (l, outr, σ.set 3 (some (.int (r : Nat))), h) = some (.nx, σ', h') ∧ AtRow b ws one s1 s2 (r + 1) σ' h' := by
  obtain ⟨nr, nd, kold, s3, s6, s7, s8, s9, s10, s11, rfl, e1, e2, hne, f⟩ := I
  have hw3 := N.w3
  have hlt1 : nr < h.length := (List.getElem?_eq_some_iff.mp e1).1
  have hlt2 : nd < h.length := (List.getElem?_eq_some_iff.mp e2).1
  have hgl := go_len ws one r
  have hpw : 2 ^ r ≤ 2 ^ 3 := Nat.pow_le_pow_right (by decide) (by omega)
  have hz0 : 0 ≤ SL := Nat.zero_le _
  obtain ⟨g0, hg0⟩ : ∃ g0, g0 = h ++ [O.lst []] ++ [O.dT []] := ⟨_, rfl⟩
  have k0 : lim T .s (l, .par [7, 8] [(.lst []), .dnt], [some (dNet b ws), s1, s2, some (.int (r : Nat)), some (.ref nr), some (.ref nd), s6, s7, s8, s9, s10, s11], h) =
      some (.nx, [some (dNet b ws), s1, s2, some (.int (r : Nat)), some (.ref nr), some (.ref nd), s6, some (.ref h.length), some (.ref (h.length + 1)), s9, s10, s11], g0) := by
    subst hg0
    simp [alloc]
  have g1 : g0[h.length]? = some (.lst []) := by subst hg0; simp
  have g2 : g0[h.length + 1]? = some (.dT []) := by subst hg0; simp [List.getElem?_append]
  have g3 : ∀ i, i < h.length → g0[i]? = h[i]? := fun i hi => by
    subst hg0
    rw [List.append_assoc, List.getElem?_append_left hi]
  have gl : g0.length = h.length + 2 := by subst hg0; simp
  have k1 : lim T .ci (l, .ex (.var 4), [some (dNet b ws), s1, s2, some (.int (r : Nat)), some (.ref nr), some (.ref nd), s6, some (.ref h.length), some (.ref (h.length + 1)), s9, s10, s11], g0) = some (.dy nr 0, g0) := by
    simp [srcOf, getL, g3 nr hlt1, e1]
  obtain ⟨σ', h', e, I'⟩ := fo_dy (T := T) (l := l) (g := .nm 6) (b := mid) ((go ws one r).map dI) nr
    (fun i σ h' => (∃ t6 t9 t10 t11, σ = [some (dNet b ws), s1, s2, some (.int (r : Nat)), some (.ref nr), some (.ref nd), t6, some (.ref h.length), some (.ref (h.length + 1)), t9, t10, t11]) ∧
      ∃ kvs, Ch h.length (h.length + 1) g0 h' ((((go ws one r).take i).flatMap (two ws r)).map dI) kvs ∧ AllK kvs ∧ kvs.length ≤ 2 * i ∧ ∀ w ∈ ((go ws one r).take i).flatMap (two ws r), findV keqT (dI w) kvs = some (.int (ent ws (r + 1) w : Nat))) (by
      rintro i σ h' ⟨_, kvs, C, _⟩
      unfold getL
      rw [C.o nr (by omega) (by omega), g3 nr hlt1, e1]) (by
      rintro i x σ h' hx ⟨⟨t6, t9, t10, t11, rfl⟩, kvs, C, A, hk, hf⟩
      rw [List.getElem?_map] at hx
      obtain ⟨way, hway, rfl⟩ := Option.map_eq_some_iff.mp hx
      have hi : i < (go ws one r).length := (List.getElem?_eq_some_iff.mp hway).1
      have hmem : way ∈ go ws one r := List.mem_of_getElem? hway
      have hlw := go_way r way hmem
      have hne2 : way ≠ [] := fun e => by rw [e] at hlw; simp at hlw
      have hlast : way.getLastD 0 < 2 ^ b := by
        rw [List.getLastD_eq_getLast?, List.getLast?_eq_getLast hne2]
        exact go_lt N h1 r way hmem _ (List.getLast_mem hne2)
      have hacc : (((go ws one r).take i).flatMap (two ws r)).length ≤ 2 * i := by
        have : ∀ L : List (List Nat), (L.flatMap (two ws r)).length = 2 * L.length := by
          intro L
          induction L with
          | nil => rfl
          | cons a t ih => rw [List.flatMap_cons, List.length_append, ih]; simp [two]; omega
        rw [this, List.length_take]
        omega
      obtain ⟨h2, kvs2, u9, u10, u11, m1, C2, A2, L2, F2⟩ := mid_ok (l := l) (s1 := s1) (s2 := s2) (s4 := some (.ref nr)) (s9 := t9) (s10 := t10) (s11 := t11) (nd := nd) (kold := kold) (way := way) (r := r) N hlast (by omega) (by rw [C.o nd (by omega) (by omega), g3 nd hlt2]; exact e2) (f way hmem) C.a1 C.a2 (by omega) (by omega) (by omega) A (by rw [List.length_map]; omega) (by omega) (by omega)
      refine ⟨([some (dNet b ws), s1, s2, some (.int (r : Nat)), some (.ref nr), some (.ref nd), some (dI way), some (.ref h.length), some (.ref (h.length + 1)), t9, t10, t11], h'), _, h2, by simp, m1, ⟨_, _, _, _, rfl⟩, kvs2, ?_, A2, by omega, ?_⟩
      · have ht : (go ws one r).take (i + 1) = (go ws one r).take i ++ [way] := by
          rw [List.take_succ, hway]
          rfl
        refine ⟨C2.len.trans C.len, ?_, C2.a2, fun j n1 n2 => (C2.o j n1 n2).trans (C.o j n1 n2)⟩
        rw [ht, List.flatMap_append, List.map_append]
        simpa using C2.a1
      · intro w hw
        rw [F2]
        by_cases z : w ∈ two ws r way
        · rw [if_pos z]
        · rw [if_neg z]
          refine hf w ?_
          have ht : (go ws one r).take (i + 1) = (go ws one r).take i ++ [way] := by
            rw [List.take_succ, hway]
            rfl
          rw [ht, List.flatMap_append, List.mem_append] at hw
          rcases hw with hw | hw
          · exact hw
          · simp at hw
            exact absurd hw z) ((go ws one r).map dI).length 0 [some (dNet b ws), s1, s2, some (.int (r : Nat)), some (.ref nr), some (.ref nd), s6, some (.ref h.length), some (.ref (h.length + 1)), s9, s10, s11] g0 (by simp) ⟨⟨_, _, _, _, rfl⟩, [], ⟨rfl, by simpa using g1, g2, fun _ _ _ => rfl⟩, (fun p hp => by cases hp), by simp, by simp⟩
  obtain ⟨⟨t6, t9, t10, t11, rfl⟩, kvs, C, A, hk, hf⟩ := I'
  rw [List.length_map, List.take_length] at C hf
  refine ⟨[some (dNet b ws), s1, s2, some (.int (r : Nat)), some (.ref h.length), some (.ref (h.length + 1)), t6, some (.ref h.length), some (.ref (h.length + 1)), t9, t10, t11], h', ?_, h.length, h.length + 1, kvs, _, _, _, _, _, _, _, rfl, C.a1, C.a2, by omega, hf⟩
  unfold outr
  simp only [List.set_cons_succ, List.set_cons_zero, ss1, k0, Option.bind_some, s_for, k1, e, ss0]
  simp
/-! ### sorted -/
def toI (w : List Nat) : List Int := w.map fun (n : Nat) => (n : Int)
def srt (M : List (List Nat)) : List D := (sortT (M.map toI)).map fun u => .tup (ofInts u)
theorem asTup_dI (w : List Nat) : asTup (dI w) = some (toI w) := by simp [asTup, dI, asInts_map, toI]
theorem mapO_dI : ∀ M : List (List Nat), mapO asTup (M.map dI) = some (M.map toI)
  | [] => rfl
  | a :: r => by simp [mapO, asTup_dI, mapO_dI r]
theorem sorted_dI {M : List (List Nat)} {n : Nat} (hM : M.length < 64) (hn : 1 ≤ n) (hl : ∀ w ∈ M, w.length = n ∧ ∀ x ∈ w, x < 1000000) : sorted (M.map dI) = some (srt M) := by
  cases M with
  | nil => rfl
  | cons a r =>
    unfold sorted
    have e1 : asInts (List.map dI (a :: r)) = none := by simp [dI, asInts]
    rw [e1, mapO_dI]
    have ha := hl a List.mem_cons_self
    have hlen : (toI a).length = n := by simp [toI, ha.1]
    have hs : sameLen (toI a).length ((a :: r).map toI) = true := by
      unfold sameLen
      rw [List.all_eq_true]
      intro t ht
      obtain ⟨w, hw, rfl⟩ := List.mem_map.mp ht
      obtain ⟨q1, q2⟩ := hl w hw
      rw [Bool.and_eq_true]
      refine ⟨by simp [toI, q1, ha.1], ?_⟩
      rw [List.all_eq_true]
      intro i hi
      simp only [toI, List.mem_map] at hi
      obtain ⟨x, hx, rfl⟩ := hi
      have := q2 x hx
      simp
      omega
    have c1 : decide (((a :: r).map toI).length < 64) = true := by simpa using hM
    have c2 : decide (1 ≤ (toI a).length) = true := by rw [hlen]; simpa using hn
    simp only [Option.bind_some, List.map_cons]
    simp only [List.map_cons] at hs c1
    rw [if_pos (by rw [c1, c2, hs]; rfl)]
    rfl
theorem norefs_ofInts : ∀ u : List Int, norefs (ofInts u) = true
  | [] => by simp [ofInts, norefs]
  | i :: r => by
    have := norefs_ofInts r
    simp only [ofInts] at this
    simp [ofInts, norefs, noref, this]
theorem norefs_tups : ∀ L : List (List Int), norefs (L.map fun u => D.tup (ofInts u)) = true
  | [] => by simp [norefs]
  | u :: r => by
    rw [List.map_cons]
    simp only [norefs, noref, norefs_ofInts, norefs_tups r]
    rfl
theorem norefs_srt (M : List (List Nat)) : norefs (srt M) = true := norefs_tups _
theorem filterMap_if {α β : Type} (p : α → Bool) (f : α → β) : ∀ l : List α, l.filterMap (fun a => if p a = true then some (f a) else none) = (l.filter p).map f
  | [] => rfl
  | a :: r => by
    rw [List.filterMap_cons, List.filter_cons, filterMap_if p f r]
    split <;> rename_i h
    · split at h
      · cases h
      · rename_i q
        rw [if_neg q]
    · split at h
      · rename_i q
        cases h
        rw [if_pos q]
        rfl
      · cases h
/-- all ways from a station to another one -/
def waysL (ws : List (List Nat)) (one other : Nat) : List (List Nat) := (go ws one (ws.length + 1)).filter fun w => decide (w.getLastD 0 = other)
theorem last_sub (w : List Nat) (hw : w ≠ []) : subscr (dI w) (.int (-1)) h = some (.int (w.getLastD 0 : Nat)) := by
  have hl : 0 < w.length := List.length_pos_iff.mpr hw
  have c1 : -(w.length : Int) ≤ -1 := by omega
  have c2 : (-1 + (w.length : Int)).toNat = w.length - 1 := by omega
  have c3 : w[w.length - 1]? = some (w.getLastD 0) := by
    rw [List.getLastD_eq_getLast?, List.getLast?_eq_getElem?, List.getElem?_eq_getElem (by omega)]
    rfl
  simp [subscr, dI, ixN, c1, c2, c3]
theorem c9 (N : NetOk b ws) (h1 : one < 2 ^ b) (other : Nat) (h : Hh) : docall (lim T) (l + 1) 9 [dNet b ws, .int (one : Nat), .int (other : Nat)] h = some (.ref h.length, h ++ [.lst (srt (waysL ws one other))]) := by
  have hw3 := N.w3
  obtain ⟨σ', h', e, nr, nd, kold, s3, s6, s7, s8, s9, s10, s11, rfl, e1, _⟩ := fo_rg (T := T) (l := l + 1) (g := .nm 3) (b := outr) (n := ws.length + 1) (AtRow b ws one (some (.int (one : Nat))) (some (.int (other : Nat)))) (by
    intro i σ h hi I
    obtain ⟨σ', h', q, I'⟩ := row_ok (l := l + 1) N h1 hi I
    exact ⟨(σ.set 3 (some (.int (i : Nat))), h), σ', h', g_nm', q, I'⟩)
    [some (dNet b ws), some (.int (one : Nat)), some (.int (other : Nat)), none, some (.ref 0), some (.ref 1), none, none, none, none, none, none] [.lst [dI [one]], .dT [(dI [one], .int (one : Nat))]]
    ⟨0, 1, [(dI [one], .int (one : Nat))], _, _, _, _, _, _, _, rfl, rfl, rfl, by decide, by
      intro way hway
      simp [go] at hway
      subst hway
      simp [findV, keqT_dI, ent]⟩
  have hgl := go_len ws one (ws.length + 1)
  have hpw : 2 ^ (ws.length + 1) ≤ 2 ^ 4 := Nat.pow_le_pow_right (by decide) (by omega)
  have hlt : nr < h'.length := (List.getElem?_eq_some_iff.mp e1).1
  obtain ⟨e2, he2⟩ := e_lcd (T := T) (l := l + 1) (own := [6]) (elt := .var 6) (g := .nm 6) (it := .ex (.var 4)) (ifs := [(.cmp .eq (.sub (.var 6) (.neg (.cst (.int 1)))) (.var 2))])
    (σ := [some (dNet b ws), some (.int (one : Nat)), some (.int (other : Nat)), s3, some (.ref nr), some (.ref nd), s6, s7, s8, s9, s10, s11]) (h := h') (h0 := h') (xs := go ws one (ws.length + 1)) (n := nr) dI (fun w => if w.getLastD 0 = other then some (dI w) else none) (by
      simp [srcOf, getL, e1]) (by simp [getL, e1]) (by
      intro w hw g _ _
      refine ⟨[some (dNet b ws), some (.int (one : Nat)), some (.int (other : Nat)), s3, some (.ref nr), some (.ref nd), some (dI w), s7, s8, s9, s10, s11], by simp [wipe], ?_⟩
      have hlen := go_way _ w hw
      have hne : w ≠ [] := fun z => by rw [z] at hlen; simp at hlen
      have t1 : lim T .ts (l + 1, [(.cmp .eq (.sub (.var 6) (.neg (.cst (.int 1)))) (.var 2))], [some (dNet b ws), some (.int (one : Nat)), some (.int (other : Nat)), s3, some (.ref nr), some (.ref nd), some (dI w), s7, s8, s9, s10, s11], g) = some (decide (w.getLastD 0 = other), g) := by
        have c : ((w.getLastD 0 : Int) == (other : Int)) = decide (w.getLastD 0 = other) := by
          rw [Bool.eq_iff_iff]
          simp only [beq_iff_eq, decide_eq_true_eq]
          omega
        simp only [ts1, t_cmp, l_cmp, l_sub, l_var, l_neg, l_cst, List.getElem?_cons_succ, List.getElem?_cons_zero, Option.bind_some, asInt_int, last_sub w hne, cmpop, eqD, truth, c]
      by_cases z : w.getLastD 0 = other
      · rw [if_pos z]
        rw [decide_eq_true z] at t1
        exact .inl ⟨_, [], rfl, t1, by simp⟩
      · rw [if_neg z]
        rw [decide_eq_false z] at t1
        exact .inr ⟨rfl, t1⟩) (SL_of (by omega))
  have hfm : (go ws one (ws.length + 1)).filterMap (fun w => if w.getLastD 0 = other then some (dI w) else none) = (waysL ws one other).map dI := by
    have := filterMap_if (fun w : List Nat => decide (w.getLastD 0 = other)) dI (go ws one (ws.length + 1))
    unfold waysL
    simpa only [decide_eq_true_eq] using this
  rw [hfm] at he2
  have hsort : sorted ((waysL ws one other).map dI) = some (srt (waysL ws one other)) := by
    have hle := List.length_filter_le (fun w : List Nat => decide (w.getLastD 0 = other)) (go ws one (ws.length + 1))
    refine sorted_dI (n := ws.length + 2) (by unfold waysL; omega) (by omega) fun w hw => ?_
    have hw' := (List.mem_filter.mp hw).1
    have hp8 := pow8 N.b3
    exact ⟨go_way _ w hw', fun x hx => by have := go_lt N h1 _ w hw' x hx; omega⟩
  refine docall_lst (n := (h' ++ .lst ((waysL ws one other).map dI) :: e2).length) (h' := h' ++ .lst ((waysL ws one other).map dI) :: e2 ++ [.lst (srt (waysL ws one other))]) (by simp [norefs, noref_net, noref]) ?_ List.getElem?_concat_length (norefs_srt _)
  rw [ca_eq (F := ⟨3, 12, b9⟩) rfl rfl]
  have s0 : start 12 [dNet b ws, .int (one : Nat), .int (other : Nat)] = [some (dNet b ws), some (.int (one : Nat)), some (.int (other : Nat)), none, none, none, none, none, none, none, none, none] := rfl
  simp only [s0, b9_eq]
  have k0 : lim T .s (l + 1, (.par [4, 5] [(.lst [(.tup [(false, (.var 1))])]), (.dst1 (.tup [(false, (.var 1))]) (.var 1))]), [some (dNet b ws), some (.int (one : Nat)), some (.int (other : Nat)), none, none, none, none, none, none, none, none, none], []) =
      some (.nx, [some (dNet b ws), some (.int (one : Nat)), some (.int (other : Nat)), none, some (.ref 0), some (.ref 1), none, none, none, none, none, none], [.lst [dI [one]], .dT [(dI [one], .int (one : Nat))]]) := by
    have hz : 1 ≤ SL := SL_le (by decide)
    have kk : keyT (.tup [.int (one : Nat)]) = true := keyT_dI [one]
    simp [alloc, hz, kk, dI]
  have k1 : lim T .ci (l + 1, .rg1 (.call 4 [.var 0]), [some (dNet b ws), some (.int (one : Nat)), some (.int (other : Nat)), none, some (.ref 0), some (.ref 1), none, none, none, none, none, none], [.lst [dI [one]], .dT [(dI [one], .int (one : Nat))]]) = some (.it ((List.range (ws.length + 1)).map fun (i : Nat) => D.int i), [.lst [dI [one]], .dT [(dI [one], .int (one : Nat))]]) := by
    exact i_rg1n (by rw [l_call]; simp [c4]) (by omega)
  simp only [ss1, ss0, k0, k1, Option.bind_some, s_for, e, s_ret, l_bi, l_es1, l_es0, he2]
  have gl : getL (h' ++ O.lst ((waysL ws one other).map dI) :: e2) h'.length = some ((waysL ws one other).map dI) := by simp [getL]
  simp only [Option.bind_some, bi, gl, hsort, alloc]
end
end K02

/-! KF: ways, power, the law's own ways -/
namespace K02
open Ez Ez2
section
variable {b : Nat} {ws : List (List Nat)} {l : Nat} {one : Nat}
theorem c10 (N : NetOk b ws) (h1 : one < 2 ^ b) {other : Nat} (h2 : other < 2 ^ b) (h : Hh) : docall (lim T) (l + 4) 10 [dNet b ws, .int (one : Nat), .int (other : Nat)] h = some (.tup (srt (waysL ws one other)), h) := by
  refine docall_val (by simp [norefs, noref_net, noref]) (h' := [.lst (srt (waysL ws one other))]) ?_ (by simpa [noref] using norefs_srt _)
  rw [ca_eq (F := ⟨3, 3, b10⟩) rfl rfl]
  have s0 : start 3 [dNet b ws, .int (one : Nat), .int (other : Nat)] = [some (dNet b ws), some (.int (one : Nat)), some (.int (other : Nat))] := rfl
  obtain ⟨m, hm⟩ : ∃ m, m = 2 ^ b := ⟨_, rfl⟩
  rw [← hm] at h1 h2
  have h1' : one < 2 ^ b := by omega
  simp only [s0, b10, ss1, ss0, s_ex, s_ret, l_call, l_es1, l_es0, l_var, List.getElem?_cons_succ, List.getElem?_cons_zero, Option.bind_some, c2 l _ N, c8 (l + 2) _ N.b3 hm h1, c8 (l + 2) _ N.b3 hm h2, l_bi, c9 (l := l + 2) N h1']
  simp [bi, seqOf, getL]
theorem c16 (n : Nat) (hn : n ≤ 100) (h : Hh) : docall (lim T) l 16 [.int (n : Nat)] h = some (.int ((2 ^ n : Nat) : Int), h) := by
  refine docall_val (by simp [norefs, noref]) (h' := []) ?_ rfl
  rw [ca_eq (F := ⟨1, 3, b16⟩) rfl rfl]
  obtain ⟨σ', h', e, rfl, q⟩ := fo_rg (T := T) (l := l) (g := .nm 2) (b := [(.asg (.nm 1) (.bin .mul (.var 1) (.cst (.int 2))))]) (n := n) (fun i σ h => h = [] ∧ ∃ s, σ = [some (.int (n : Nat)), some (.int ((2 ^ i : Nat) : Int)), s]) (by
    rintro i σ h hi ⟨rfl, s, rfl⟩
    obtain ⟨z, hz⟩ : ∃ z, z = 2 ^ i := ⟨_, rfl⟩
    have hw : inW (2 : Int) = true := rfl
    refine ⟨([some (.int (n : Nat)), some (.int ((2 ^ i : Nat) : Int)), some (.int (i : Nat))], []), [some (.int (n : Nat)), some (.int ((2 ^ (i + 1) : Nat) : Int)), some (.int (i : Nat))], [], by simp, ?_, rfl, _, rfl⟩
    rw [Nat.pow_succ, ← hz]
    simp [binop, hw]) [some (.int (n : Nat)), some (.int 1), none] [] ⟨rfl, none, by simp⟩
  obtain ⟨s, rfl⟩ := q
  have s0 : start 3 [.int (n : Nat)] = [some (.int (n : Nat)), none, none] := rfl
  have k1 : lim T .ci (l, .rg1 (.var 0), [some (.int (n : Nat)), some (.int 1), none], []) = some (.it ((List.range n).map fun (i : Nat) => D.int i), []) := i_rg1n (by simp) (by omega)
  simp only [s0, b16, ss1, ss0, s_asg, l_cst, Option.bind_some, g_nm', List.set_cons_succ, List.set_cons_zero, s_for, k1, e, s_ret, l_var, List.getElem?_cons_succ, List.getElem?_cons_zero]
/-! ### the law's own ways -/
def inn20 : List CS := [(.asg (.nm 7) (.ite (.cmp .eq (.var 4) (.cst (.int 0))) (.sub (.var 6) (.neg (.cst (.int 1)))) (.sub (.sub (.sub (.var 0) (.cst (.int 1))) (.bin .sub (.var 4) (.cst (.int 1)))) (.sub (.var 6) (.neg (.cst (.int 1))))))), (.asg (.nm 5) (.bin .add (.var 5) (.lc [8] (.bin .add (.var 6) (.tup [(false, (.bin .add (.bin .mul (.cst (.int 2)) (.bin .fdiv (.var 7) (.cst (.int 2)))) (.var 8)))])) (.nm 8) (.ex (.tup [(false, (.cst (.int 0))), (false, (.cst (.int 1)))])) [])))]
def out20 : List CS := [(.asg (.nm 5) (.lst [])), (.for_ (.nm 6) (.ex (.var 3)) inn20), (.asg (.nm 3) (.var 5))]
theorem b20_eq : b20 = [(.asg (.nm 3) (.lst [(.tup [(false, (.var 1))])])), (.for_ (.nm 4) (.rg1 (.bin .add (.bi .len [(.sub (.var 0) (.cst (.int 1)))]) (.cst (.int 1)))) out20), (.ret (.bi .sorted1 [(.lc [6] (.var 6) (.nm 6) (.ex (.var 3)) [(.cmp .eq (.sub (.var 6) (.neg (.cst (.int 1)))) (.var 2))])]))] := rfl
theorem inn20_ok (N : NetOk b ws) {way : List Nat} {r n5 : Nat} {acc : List D} {h : Hh} {s1 s2 s3 s7 s8 : Option D} (hw : way ≠ []) (hl : way.length ≤ 90) (hlast : way.getLastD 0 < 2 ^ b) (hr : r ≤ ws.length) (e5 : h[n5]? = some (.lst acc)) (ha : acc.length ≤ 90) :
    ∃ s8' e, lim T .ss (l, inn20, [some (dNet b ws), s1, s2, s3, some (.int (r : Nat)), some (.ref n5), some (dI way), s7, s8], h) =
      some (.nx, [some (dNet b ws), s1, s2, s3, some (.int (r : Nat)), some (.ref (h.length + 1 + e.length)), some (dI way), some (.int (ent ws r way : Nat)), s8'], h ++ .lst ((two ws r way).map dI) :: e ++ [.lst (acc ++ (two ws r way).map dI)]) := by
  obtain ⟨y, hy⟩ : ∃ y, y = ent ws r way := ⟨_, rfl⟩
  have k0 : lim T .e (l, (.ite (.cmp .eq (.var 4) (.cst (.int 0))) (.sub (.var 6) (.neg (.cst (.int 1)))) (.sub (.sub (.sub (.var 0) (.cst (.int 1))) (.bin .sub (.var 4) (.cst (.int 1)))) (.sub (.var 6) (.neg (.cst (.int 1)))))), [some (dNet b ws), s1, s2, s3, some (.int (r : Nat)), some (.ref n5), some (dI way), s7, s8], h) = some (.int (y : Nat), h) := by
    cases r with
    | zero =>
      have : y = way.getLastD 0 := hy
      simp only [l_ite, t_cmp, l_cmp, l_var, l_cst, l_sub, l_neg, List.getElem?_cons_succ, List.getElem?_cons_zero, Option.bind_some, asInt_int, last_sub way hw, cmpop, eqD, truth, this]
      simp
    | succ r =>
      have hr2 : r < ws.length := by omega
      have p := N.p _ (List.getElem_mem hr2)
      have hlen := perm_len p
      have hy2 : y = (ws[r]).getD (way.getLastD 0) 0 := by
        rw [hy]
        simp [ent, hr2]
      have c0 : (((r + 1 : Nat) : Int) == 0) = false := by
        rw [beq_eq_false_iff_ne]
        omega
      have c1 : (((r + 1 : Nat) : Int) - 1) = (r : Int) := by omega
      have c2 : (r : Int) < (ws.length : Nat) := by omega
      obtain ⟨z, hz⟩ : ∃ z, z = way.getLastD 0 := ⟨_, rfl⟩
      rw [← hz] at hlast hy2
      have c4 : z < ws[r].length := by omega
      have c5 : (z : Int) < (ws[r].length : Nat) := by omega
      have q1 : subscr (dNet b ws) (.int 1) h = some (.tup (ws.map dI)) := by simp [dNet, subscr, ixN]
      have q2 : subscr (.tup (ws.map dI)) (.int (r : Nat)) h = some (dI ws[r]) := by simp [subscr, ixN, c2, hr2]
      have q3 : subscr (dI ws[r]) (.int (z : Nat)) h = some (.int (y : Nat)) := by
        have : ws[r].getD z 0 = ws[r][z] := by simp [c4]
        simp [subscr, dI, ixN, c5, c4, hy2]
      simp only [l_ite, t_cmp, l_cmp, l_var, l_cst, l_sub, l_neg, l_bin, List.getElem?_cons_succ, List.getElem?_cons_zero, Option.bind_some, asInt_int, last_sub way hw, ← hz, cmpop, eqD, truth, c0, binop, c1, q1, q2, q3, Bool.false_eq_true, if_false]
  have hz2 : 2 ≤ SL := SL_le (by decide)
  have hz1 : way.length + 1 ≤ SL := SL_le (by omega)
  have hz11 : 1 ≤ SL := SL_le (by decide)
  have c1 : 2 * ((y : Int) / 2) = ((y - y % 2 : Nat) : Int) := by omega
  have k1 : lim T .ci (l, (.ex (.tup [(false, (.cst (.int 0))), (false, (.cst (.int 1)))])), [some (dNet b ws), s1, s2, s3, some (.int (r : Nat)), some (.ref n5), some (dI way), some (.int (y : Nat)), s8], h) = some (.it ([0, 1].map fun (i : Nat) => D.int i), h) := by
    simp [srcOf, hz2]
  have hw2 : inW (2 : Int) = true := rfl
  obtain ⟨e, he⟩ := e_lcm (T := T) (l := l) (own := [8]) (elt := (.bin .add (.var 6) (.tup [(false, (.bin .add (.bin .mul (.cst (.int 2)) (.bin .fdiv (.var 7) (.cst (.int 2)))) (.var 8)))]))) (g := .nm 8) (σ := [some (dNet b ws), s1, s2, s3, some (.int (r : Nat)), some (.ref n5), some (dI way), some (.int (y : Nat)), s8]) (fun (i : Nat) => D.int i) (fun i => dI (way ++ [y - y % 2 + i])) k1 (by
    intro x hx h' _ _
    refine ⟨[some (dNet b ws), s1, s2, s3, some (.int (r : Nat)), some (.ref n5), some (dI way), some (.int (y : Nat)), some (.int (x : Nat))], [], by simp [wipe], ?_⟩
    have c3 : binop .add (dI way) (.tup [.int (((y - y % 2 : Nat) : Int) + (x : Int))]) h' = some (dI (way ++ [y - y % 2 + x]), h' ++ []) := by
      rw [dI, b_cat (by rw [List.length_map]; exact hz1), ← Int.natCast_add]
      simp [dI]
    simp only [l_bin, l_var, l_tup, l_sp1, l_sp0, l_cst, List.getElem?_cons_succ, List.getElem?_cons_zero, Option.bind_some, b_mulL hw2, b_add, b_fdiv (show (0 : Int) < 2 by decide) (show (2 : Int) < 1073741824 by decide), c1, List.length_cons, List.length_nil, hz11, if_true, c3]) (SL_of (by decide))
  have htwo : [0, 1].map (fun i => dI (way ++ [y - y % 2 + i])) = (two ws r way).map dI := by
    simp [two, ← hy]
  rw [htwo] at he
  refine ⟨s8, e, ?_⟩
  have gm1 : getM (h ++ O.lst ((two ws r way).map dI) :: e) n5 = some acc := by
    have : n5 < h.length := (List.getElem?_eq_some_iff.mp e5).1
    unfold getM
    rw [List.getElem?_append_left this, e5]
  have gm2 : getM (h ++ O.lst ((two ws r way).map dI) :: e) h.length = some ((two ws r way).map dI) := by simp [getM]
  have hz3 : acc.length + ((two ws r way).map dI).length ≤ SL := SL_le (by simp [two]; omega)
  unfold inn20
  simp only [ss1, ss0, s_asg, k0, Option.bind_some, g_nm', List.set_cons_succ, List.set_cons_zero, l_bin, l_var, List.getElem?_cons_succ, List.getElem?_cons_zero, he, binop, gm1, gm2, hz3, if_true, alloc]
  rw [← hy]
  congr 1
  simp
  omega
end
end K02

/-! KG: the law's own ways, to the end; back -/
namespace K02
open Ez Ez2
section
variable {b : Nat} {ws : List (List Nat)} {l : Nat} {one : Nat}
theorem flat_len (r : Nat) : ∀ L : List (List Nat), (L.flatMap (two ws r)).length = 2 * L.length := by
  intro L
  induction L with
  | nil => rfl
  | cons a t ih => rw [List.flatMap_cons, List.length_append, ih]; simp [two]; omega
def AtRow20 (b : Nat) (ws : List (List Nat)) (one : Nat) (s1 s2 : Option D) (r : Nat) (σ : Sg) (h : Hh) : Prop :=
  ∃ n3 s4 s5 s6 s7 s8, σ = [some (dNet b ws), s1, s2, some (.ref n3), s4, s5, s6, s7, s8] ∧ h[n3]? = some (.lst ((go ws one r).map dI))
theorem row20_ok (N : NetOk b ws) (h1 : one < 2 ^ b) {s1 s2 : Option D} {r : Nat} {σ : Sg} {h : Hh} (hr : r < ws.length + 1) (I : AtRow20 b ws one s1 s2 r σ h) :
    ∃ σ' h', lim T .ss (l, out20, σ.set 4 (some (.int (r : Nat))), h) = some (.nx, σ', h') ∧ AtRow20 b ws one s1 s2 (r + 1) σ' h' := by
  obtain ⟨n3, s4, s5, s6, s7, s8, rfl, e1⟩ := I
  have hw3 := N.w3
  have hlt1 : n3 < h.length := (List.getElem?_eq_some_iff.mp e1).1
  have hgl := go_len ws one r
  have hpw : 2 ^ r ≤ 2 ^ 3 := Nat.pow_le_pow_right (by decide) (by omega)
  have hz0 : 0 ≤ SL := Nat.zero_le _
  have k0 : lim T .s (l, .asg (.nm 5) (.lst []), [some (dNet b ws), s1, s2, some (.ref n3), some (.int (r : Nat)), s5, s6, s7, s8], h) = some (.nx, [some (dNet b ws), s1, s2, some (.ref n3), some (.int (r : Nat)), some (.ref h.length), s6, s7, s8], h ++ [.lst []]) := by
    simp [alloc]
  have g3 : (h ++ [O.lst []])[n3]? = h[n3]? := by rw [List.getElem?_append_left hlt1]
  have k1 : lim T .ci (l, .ex (.var 3), [some (dNet b ws), s1, s2, some (.ref n3), some (.int (r : Nat)), some (.ref h.length), s6, s7, s8], h ++ [.lst []]) = some (.dy n3 0, h ++ [.lst []]) := by
    have : getL (h ++ [O.lst []]) n3 = some ((go ws one r).map dI) := by unfold getL; rw [g3, e1]
    simp [srcOf, this]
  obtain ⟨σ', h', e, I'⟩ := fo_dy (T := T) (l := l) (g := .nm 6) (b := inn20) ((go ws one r).map dI) n3
    (fun i σ h' => ∃ n5 t6 t7 t8, σ = [some (dNet b ws), s1, s2, some (.ref n3), some (.int (r : Nat)), some (.ref n5), t6, t7, t8] ∧ h'[n3]? = some (.lst ((go ws one r).map dI)) ∧ h'[n5]? = some (.lst ((((go ws one r).take i).flatMap (two ws r)).map dI))) (by
      rintro i σ h' ⟨n5, t6, t7, t8, _, q, _⟩
      unfold getL
      rw [q]) (by
      rintro i x σ h' hx ⟨n5, t6, t7, t8, rfl, q, q5⟩
      rw [List.getElem?_map] at hx
      obtain ⟨way, hway, rfl⟩ := Option.map_eq_some_iff.mp hx
      have hi : i < (go ws one r).length := (List.getElem?_eq_some_iff.mp hway).1
      have hmem : way ∈ go ws one r := List.mem_of_getElem? hway
      have hlw := go_way r way hmem
      have hne2 : way ≠ [] := fun e => by rw [e] at hlw; simp at hlw
      have hlast : way.getLastD 0 < 2 ^ b := by
        rw [List.getLastD_eq_getLast?, List.getLast?_eq_getLast hne2]
        exact go_lt N h1 r way hmem _ (List.getLast_mem hne2)
      have hacc : ((((go ws one r).take i).flatMap (two ws r)).map dI).length ≤ 90 := by
        rw [List.length_map, flat_len, List.length_take]
        omega
      obtain ⟨s8', e, he⟩ := inn20_ok (l := l) (s1 := s1) (s2 := s2) (s3 := some (.ref n3)) (s7 := t7) (s8 := t8) (r := r) N hne2 (by omega) hlast (by omega) q5 hacc
      have hlt3 : n3 < h'.length := (List.getElem?_eq_some_iff.mp q).1
      have ht : (go ws one r).take (i + 1) = (go ws one r).take i ++ [way] := by
        rw [List.take_succ, hway]
        rfl
      refine ⟨([some (dNet b ws), s1, s2, some (.ref n3), some (.int (r : Nat)), some (.ref n5), some (dI way), t7, t8], h'), _, _, by simp, he, _, _, _, _, rfl, ?_, ?_⟩
      · rw [List.append_assoc, List.getElem?_append_left hlt3]
        exact q
      · rw [ht, List.flatMap_append, List.map_append]
        have : h'.length + 1 + e.length = (h' ++ O.lst ((two ws r way).map dI) :: e).length := by simp; omega
        rw [this, List.getElem?_concat_length]
        simp) ((go ws one r).map dI).length 0 [some (dNet b ws), s1, s2, some (.ref n3), some (.int (r : Nat)), some (.ref h.length), s6, s7, s8] (h ++ [.lst []]) (by simp) ⟨h.length, _, _, _, rfl, by rw [g3]; exact e1, by simp⟩
  obtain ⟨n5, t6, t7, t8, rfl, q, q5⟩ := I'
  rw [List.length_map, List.take_length] at q5
  refine ⟨[some (dNet b ws), s1, s2, some (.ref n5), some (.int (r : Nat)), some (.ref n5), t6, t7, t8], h', ?_, n5, _, _, _, _, _, rfl, q5⟩
  unfold out20
  simp only [List.set_cons_succ, List.set_cons_zero, ss1, k0, Option.bind_some, s_for, k1, e, ss0]
  simp
theorem c20 (N : NetOk b ws) (h1 : one < 2 ^ b) (other : Nat) (h : Hh) : docall (lim T) l 20 [dNet b ws, .int (one : Nat), .int (other : Nat)] h = some (.ref h.length, h ++ [.lst (srt (waysL ws one other))]) := by
  have hw3 := N.w3
  obtain ⟨σ', h', e, n3, s4, s5, s6, s7, s8, rfl, e1⟩ := fo_rg (T := T) (l := l) (g := .nm 4) (b := out20) (n := ws.length + 1) (AtRow20 b ws one (some (.int (one : Nat))) (some (.int (other : Nat)))) (by
    intro i σ h hi I
    obtain ⟨σ', h', q, I'⟩ := row20_ok (l := l) N h1 hi I
    exact ⟨(σ.set 4 (some (.int (i : Nat))), h), σ', h', g_nm', q, I'⟩)
    [some (dNet b ws), some (.int (one : Nat)), some (.int (other : Nat)), some (.ref 0), none, none, none, none, none] [.lst [dI [one]]]
    ⟨0, _, _, _, _, _, rfl, rfl⟩
  have hgl := go_len ws one (ws.length + 1)
  have hpw : 2 ^ (ws.length + 1) ≤ 2 ^ 4 := Nat.pow_le_pow_right (by decide) (by omega)
  obtain ⟨e2, he2⟩ := e_lcd (T := T) (l := l) (own := [6]) (elt := .var 6) (g := .nm 6) (it := .ex (.var 3)) (ifs := [(.cmp .eq (.sub (.var 6) (.neg (.cst (.int 1)))) (.var 2))])
    (σ := [some (dNet b ws), some (.int (one : Nat)), some (.int (other : Nat)), some (.ref n3), s4, s5, s6, s7, s8]) (h := h') (h0 := h') (xs := go ws one (ws.length + 1)) (n := n3) dI (fun w => if w.getLastD 0 = other then some (dI w) else none) (by
      simp [srcOf, getL, e1]) (by simp [getL, e1]) (by
      intro w hw g _ _
      refine ⟨[some (dNet b ws), some (.int (one : Nat)), some (.int (other : Nat)), some (.ref n3), s4, s5, some (dI w), s7, s8], by simp [wipe], ?_⟩
      have hlen := go_way _ w hw
      have hne : w ≠ [] := fun z => by rw [z] at hlen; simp at hlen
      have t1 : lim T .ts (l, [(.cmp .eq (.sub (.var 6) (.neg (.cst (.int 1)))) (.var 2))], [some (dNet b ws), some (.int (one : Nat)), some (.int (other : Nat)), some (.ref n3), s4, s5, some (dI w), s7, s8], g) = some (decide (w.getLastD 0 = other), g) := by
        have c : ((w.getLastD 0 : Int) == (other : Int)) = decide (w.getLastD 0 = other) := by
          rw [Bool.eq_iff_iff]
          simp only [beq_iff_eq, decide_eq_true_eq]
          omega
        simp only [ts1, t_cmp, l_cmp, l_sub, l_var, l_neg, l_cst, List.getElem?_cons_succ, List.getElem?_cons_zero, Option.bind_some, asInt_int, last_sub w hne, cmpop, eqD, truth, c]
      by_cases z : w.getLastD 0 = other
      · rw [if_pos z]
        rw [decide_eq_true z] at t1
        exact .inl ⟨_, [], rfl, t1, by simp⟩
      · rw [if_neg z]
        rw [decide_eq_false z] at t1
        exact .inr ⟨rfl, t1⟩) (SL_of (by omega))
  have hfm : (go ws one (ws.length + 1)).filterMap (fun w => if w.getLastD 0 = other then some (dI w) else none) = (waysL ws one other).map dI := by
    have := filterMap_if (fun w : List Nat => decide (w.getLastD 0 = other)) dI (go ws one (ws.length + 1))
    unfold waysL
    simpa only [decide_eq_true_eq] using this
  rw [hfm] at he2
  have hsort : sorted ((waysL ws one other).map dI) = some (srt (waysL ws one other)) := by
    have hle := List.length_filter_le (fun w : List Nat => decide (w.getLastD 0 = other)) (go ws one (ws.length + 1))
    refine sorted_dI (n := ws.length + 2) (by unfold waysL; omega) (by omega) fun w hw => ?_
    have hw' := (List.mem_filter.mp hw).1
    have hp8 := pow8 N.b3
    exact ⟨go_way _ w hw', fun x hx => by have := go_lt N h1 _ w hw' x hx; omega⟩
  refine docall_lst (n := (h' ++ .lst ((waysL ws one other).map dI) :: e2).length) (h' := h' ++ .lst ((waysL ws one other).map dI) :: e2 ++ [.lst (srt (waysL ws one other))]) (by simp [norefs, noref_net, noref]) ?_ List.getElem?_concat_length (norefs_srt _)
  rw [ca_eq (F := ⟨3, 9, b20⟩) rfl rfl]
  have s0 : start 9 [dNet b ws, .int (one : Nat), .int (other : Nat)] = [some (dNet b ws), some (.int (one : Nat)), some (.int (other : Nat)), none, none, none, none, none, none] := rfl
  simp only [s0, b20_eq]
  have k0 : lim T .s (l, (.asg (.nm 3) (.lst [(.tup [(false, (.var 1))])])), [some (dNet b ws), some (.int (one : Nat)), some (.int (other : Nat)), none, none, none, none, none, none], []) =
      some (.nx, [some (dNet b ws), some (.int (one : Nat)), some (.int (other : Nat)), some (.ref 0), none, none, none, none, none], [.lst [dI [one]]]) := by
    have hz : 1 ≤ SL := SL_le (by decide)
    simp [alloc, hz, dI]
  have k1 : lim T .ci (l, .rg1 (.bin .add (.bi .len [(.sub (.var 0) (.cst (.int 1)))]) (.cst (.int 1))), [some (dNet b ws), some (.int (one : Nat)), some (.int (other : Nat)), some (.ref 0), none, none, none, none, none], [.lst [dI [one]]]) = some (.it ((List.range (ws.length + 1)).map fun (i : Nat) => D.int i), [.lst [dI [one]]]) :=
    i_rg1n (by simp [dNet, subscr, ixN, bi, b_add]) (by omega)
  have gl : getL (h' ++ O.lst ((waysL ws one other).map dI) :: e2) h'.length = some ((waysL ws one other).map dI) := by simp [getL]
  simp only [ss1, ss0, k0, k1, Option.bind_some, s_for, e, s_ret, l_bi, l_es1, l_es0, he2, bi, gl, hsort, alloc]
/-! ### a way the other way round -/
/-- for each row below n, from the last one, the wire of the turned net -/
def bk (ws : List (List Nat)) (way : List Nat) : Nat → List Nat
  | 0 => []
  | n + 1 => (ent ws n (way.take (n + 1))) :: bk ws way n
def back (ws : List (List Nat)) (way : List Nat) : List Nat := way.getLastD 0 :: bk ws way (way.length - 1)
theorem rngc_eq : ∀ n : Nat, rngc ((n : Int) - 1) (-1) n = (List.range n).reverse.map fun (i : Nat) => D.int i
  | 0 => rfl
  | n + 1 => by
    rw [List.range_succ, List.reverse_append]
    simp only [List.reverse_cons, List.reverse_nil, List.nil_append, List.cons_append, List.map_cons, rngc]
    rw [← rngc_eq n]
    have e1 : (((n + 1 : Nat) : Int) - 1) = (n : Int) := by omega
    rw [e1]
    rfl
theorem bk_eq (ws : List (List Nat)) (way : List Nat) : ∀ n, bk ws way n = (List.range n).reverse.map fun k => ent ws k (way.take (k + 1))
  | 0 => rfl
  | n + 1 => by
    rw [List.range_succ, List.reverse_append]
    simp only [List.reverse_cons, List.reverse_nil, List.nil_append, List.cons_append, List.map_cons, bk]
    rw [bk_eq ws way n]
theorem take_last {way : List Nat} {k : Nat} (hk : k < way.length) : (way.take (k + 1)).getLastD 0 = way[k] := by
  rw [List.take_succ, List.getElem?_eq_getElem hk]
  exact lastD_app _ _
def in21 : List CS := [(.ex (.met .append (.var 2) [(.ite (.cmp .eq (.var 3) (.cst (.int 0))) (.sub (.var 1) (.var 3)) (.sub (.sub (.sub (.var 0) (.cst (.int 1))) (.bin .sub (.var 3) (.cst (.int 1)))) (.sub (.var 1) (.var 3))))]))]
theorem b21_eq : b21 = [(.asg (.nm 2) (.lst [(.sub (.var 1) (.neg (.cst (.int 1))))])), (.for_ (.nm 3) (.rg3 (.bin .sub (.bi .len [(.var 1)]) (.cst (.int 2))) (.neg (.cst (.int 1))) (.neg (.cst (.int 1)))) in21), (.ret (.bi .tuple1 [(.var 2)]))] := rfl
theorem i_rg3n {T : Tab} {σ : Sg} {h h1 h2 h3 : Hh} {a b c : CE} {n : Nat} (e : lim T .e (l, a, σ, h) = some (.int ((n : Int) - 1), h1)) (e2 : lim T .e (l, b, σ, h1) = some (.int (-1), h2)) (e3 : lim T .e (l, c, σ, h2) = some (.int (-1), h3)) (hn : n ≤ 1000000) : lim T .ci (l, .rg3 a b c, σ, h) = some (.it ((List.range n).reverse.map fun (i : Nat) => D.int i), h3) := by
  have hr : (inR ((n : Int) - 1) && inR (-1) && decide True) = true := by
    have : inR ((n : Int) - 1) = true := Nat.ble_eq_true_of_le (by omega)
    rw [this]
    rfl
  rw [i_rg3, e]
  simp only [Option.bind_some, asInt_int, e2, e3]
  rw [if_pos hr]
  have : ((n : Int) - 1 - -1).toNat = n := by omega
  rw [this, rngc_eq]
theorem c21 (N : NetOk b ws) {way : List Nat} {n : Nat} (hl : way.length = n + 1) (hn : n ≤ ws.length + 1) (hlt : ∀ x ∈ way, x < 2 ^ b) (h : Hh) : docall (lim T) l 21 [dNet b ws, dI way] h = some (dI (back ws way), h) := by
  have hw3 := N.w3
  have hne : way ≠ [] := fun z => by rw [z] at hl; simp at hl
  obtain ⟨z, hz⟩ : ∃ z, z = way.getLastD 0 := ⟨_, rfl⟩
  obtain ⟨σ', h', e, s3, rfl, rfl⟩ := fo_ix (T := T) (l := l) (g := .nm 3) (b := in21) (fun (i : Nat) => D.int i) (List.range n).reverse
    (fun i σ h => ∃ s3, σ = [some (dNet b ws), some (dI way), some (.ref 0), s3] ∧ h = [.lst ((z :: ((List.range n).reverse.take i).map fun k => ent ws k (way.take (k + 1))).map fun (j : Nat) => D.int j)]) (by
      rintro i x σ h hx ⟨s3, rfl, rfl⟩
      have hi : i < (List.range n).reverse.length := (List.getElem?_eq_some_iff.mp hx).1
      have hxm : x ∈ (List.range n).reverse := List.mem_of_getElem? hx
      have hxn : x < n := by simpa using hxm
      have hxw : x < way.length := by omega
      have hxv := hlt _ (List.getElem_mem hxw)
      obtain ⟨acc, hacc⟩ : ∃ acc, acc = ((z :: ((List.range n).reverse.take i).map fun k => ent ws k (way.take (k + 1))).map fun (j : Nat) => D.int j) := ⟨_, rfl⟩
      have hlen : acc.length < SL := by
        refine SL_of ?_
        rw [hacc]
        simp
        omega
      have hent : lim T .e (l, (.ite (.cmp .eq (.var 3) (.cst (.int 0))) (.sub (.var 1) (.var 3)) (.sub (.sub (.sub (.var 0) (.cst (.int 1))) (.bin .sub (.var 3) (.cst (.int 1)))) (.sub (.var 1) (.var 3)))), [some (dNet b ws), some (dI way), some (.ref 0), some (.int (x : Nat))], [O.lst acc]) = some (.int (ent ws x (way.take (x + 1)) : Nat), [O.lst acc]) := by
        have q0 : subscr (dI way) (.int (x : Nat)) [O.lst acc] = some (.int (way[x] : Nat)) := by
          have c : (x : Int) < (way.length : Nat) := by omega
          simp [subscr, dI, ixN, c, hxw]
        cases x with
        | zero =>
          have : ent ws 0 (way.take (0 + 1)) = way[0] := take_last hxw
          rw [this]
          simp only [l_ite, t_cmp, l_cmp, l_var, l_cst, l_sub, List.getElem?_cons_succ, List.getElem?_cons_zero, Option.bind_some, cmpop, eqD, truth, q0]
          simp
        | succ r =>
          have hr2 : r < ws.length := by omega
          have p := N.p _ (List.getElem_mem hr2)
          have hlen2 := perm_len p
          have hy2 : ent ws (r + 1) (way.take (r + 1 + 1)) = (ws[r]).getD way[r + 1] 0 := by
            simp only [ent]
            rw [take_last hxw]
            simp [hr2]
          have c0 : (((r + 1 : Nat) : Int) == 0) = false := by
            rw [beq_eq_false_iff_ne]
            omega
          have c1 : (((r + 1 : Nat) : Int) - 1) = (r : Int) := by omega
          have c2 : (r : Int) < (ws.length : Nat) := by omega
          obtain ⟨u, hu⟩ : ∃ u, u = way[r + 1] := ⟨_, rfl⟩
          rw [← hu] at hxv hy2 q0
          have c4 : u < ws[r].length := by omega
          have c5 : (u : Int) < (ws[r].length : Nat) := by omega
          have q1 : subscr (dNet b ws) (.int 1) [O.lst acc] = some (.tup (ws.map dI)) := by simp [dNet, subscr, ixN]
          have q2 : subscr (.tup (ws.map dI)) (.int (r : Nat)) [O.lst acc] = some (dI ws[r]) := by simp [subscr, ixN, c2, hr2]
          have q3 : subscr (dI ws[r]) (.int (u : Nat)) [O.lst acc] = some (.int ((ws[r]).getD u 0 : Nat)) := by
            simp [subscr, dI, ixN, c5, c4]
          rw [hy2]
          simp only [l_ite, t_cmp, l_cmp, l_var, l_cst, l_sub, l_bin, List.getElem?_cons_succ, List.getElem?_cons_zero, Option.bind_some, cmpop, eqD, truth, c0, b_sub, c1, q0, q1, q2, q3, Bool.false_eq_true, if_false]
      have ht : (List.range n).reverse.take (i + 1) = (List.range n).reverse.take i ++ [x] := by
        rw [List.take_succ, hx]
        rfl
      rw [← hacc]
      refine ⟨([some (dNet b ws), some (dI way), some (.ref 0), some (.int (x : Nat))], [.lst acc]), [some (dNet b ws), some (dI way), some (.ref 0), some (.int (x : Nat))], [.lst (acc ++ [.int (ent ws x (way.take (x + 1)) : Nat)])], by simp, ?_, _, rfl, ?_⟩
      · unfold in21
        simp only [ss1, ss0, s_ex, l_met, l_var, l_es1, l_es0, List.getElem?_cons_succ, List.getElem?_cons_zero, Option.bind_some, hent]
        simp [rcv, met, metL, getM, hlen]
      · rw [ht, hacc]
        simp) [some (dNet b ws), some (dI way), some (.ref 0), none] [.lst [.int (z : Nat)]] ⟨_, rfl, by simp⟩
  refine docall_val (by simp [norefs, noref_net, noref_dI]) (h' := [.lst ((back ws way).map fun (j : Nat) => D.int j)]) ?_ (noref_dI _)
  rw [ca_eq (F := ⟨2, 4, b21⟩) rfl rfl]
  have s0 : start 4 [dNet b ws, dI way] = [some (dNet b ws), some (dI way), none, none] := rfl
  have k0 : lim T .s (l, (.asg (.nm 2) (.lst [(.sub (.var 1) (.neg (.cst (.int 1))))])), [some (dNet b ws), some (dI way), none, none], []) = some (.nx, [some (dNet b ws), some (dI way), some (.ref 0), none], [.lst [.int (z : Nat)]]) := by
    have hz1 : 1 ≤ SL := SL_le (by decide)
    rw [hz]
    simp only [s_asg, l_lst, l_es1, l_es0, l_sub, l_neg, l_var, l_cst, List.getElem?_cons_succ, List.getElem?_cons_zero, Option.bind_some, asInt_int, last_sub way hne]
    simp [alloc, hz1]
  have k1 : lim T .ci (l, (.rg3 (.bin .sub (.bi .len [(.var 1)]) (.cst (.int 2))) (.neg (.cst (.int 1))) (.neg (.cst (.int 1)))), [some (dNet b ws), some (dI way), some (.ref 0), none], [.lst [.int (z : Nat)]]) = some (.it ((List.range n).reverse.map fun (i : Nat) => D.int i), [.lst [.int (z : Nat)]]) := by
    have : ((n + 1 : Nat) : Int) - 2 = (n : Int) - 1 := by omega
    refine i_rg3n (h1 := [.lst [.int (z : Nat)]]) (h2 := [.lst [.int (z : Nat)]]) ?_ (by simp) (by simp) (by omega)
    simp [dI, bi, hl, b_sub]
    omega
  have hb : back ws way = z :: ((List.range n).reverse.take (List.range n).reverse.length).map fun k => ent ws k (way.take (k + 1)) := by
    unfold back
    rw [hl, bk_eq, List.take_length, ← hz]
    rfl
  simp only [s0, b21_eq, ss1, ss0, k0, k1, Option.bind_some, s_for, e, s_ret, l_bi, l_es1, l_es0, l_var, List.getElem?_cons_succ, List.getElem?_cons_zero]
  rw [hb]
  simp [bi, seqOf, getL, dI]
end
end K02

/-! KM: the mathematics of ways -/
namespace K02
open Ez Ez2
/-! ### the order turned twice -/
theorem inv_len (w : List Nat) : (inv w).length = w.length := by simp [inv]
theorem inv_at {m : Nat} {w : List Nat} (p : w.Perm (List.range m)) {k : Nat} (hk : k < w.length) : (inv w).getD w[k] 0 = k := by
  have hl := perm_len p
  have hv : w[k] < w.length := by rw [hl]; exact perm_lt p _ (List.getElem_mem hk)
  rw [List.getD_eq_getElem?_getD, inv_get hv]
  exact (perm_nd p).idxOf_getElem k hk
theorem inv_inv {m : Nat} {w : List Nat} (p : w.Perm (List.range m)) : inv (inv w) = w := by
  apply List.ext_getElem
  · rw [inv_len, inv_len]
  · intro k h1 h2
    have q := inv_ok p
    have hv : w[k] < (inv w).length := by rw [inv_len, perm_len p]; exact perm_lt p _ (List.getElem_mem h2)
    have e1 : (inv w)[w[k]] = k := by
      have := inv_at p h2
      rw [List.getD_eq_getElem?_getD, List.getElem?_eq_getElem hv] at this
      exact this
    have e2 := (perm_nd q).idxOf_getElem w[k] hv
    rw [e1] at e2
    have e3 : (inv (inv w))[k]? = some ((inv w).idxOf k) := inv_get (by rw [inv_len]; exact h2)
    rw [List.getElem?_eq_getElem h1] at e3
    rw [Option.some.inj e3, e2]
/-! ### sorting -/
theorem lex_irr : ∀ a : List Int, lexI a a = false
  | [] => rfl
  | x :: xs => by simp [lexI, lex_irr xs]
theorem lex_tri : ∀ a b : List Int, lexI a b = true ∨ a = b ∨ lexI b a = true
  | [], [] => .inr (.inl rfl)
  | [], _ :: _ => .inl rfl
  | _ :: _, [] => .inr (.inr rfl)
  | x :: xs, y :: ys => by
    by_cases e : x = y
    · subst e
      rcases lex_tri xs ys with q | q | q
      · exact .inl (by simp [lexI, q])
      · exact .inr (.inl (by rw [q]))
      · exact .inr (.inr (by simp [lexI, q]))
    · rcases Int.lt_or_gt_of_ne e with q | q
      · exact .inl (by simp [lexI, e, q])
      · exact .inr (.inr (by simp [lexI, Ne.symm e, q]))
theorem lex_trans : ∀ a b c : List Int, lexI a b = true → lexI b c = true → lexI a c = true
  | [], _, [], h1, h2 => by rename_i b; cases b <;> simp [lexI] at h1 h2
  | [], _, _ :: _, _, _ => rfl
  | _ :: _, [], _, h1, _ => by simp [lexI] at h1
  | _ :: _, _ :: _, [], _, h2 => by simp [lexI] at h2
  | x :: xs, y :: ys, z :: zs, h1, h2 => by
    simp only [lexI] at h1 h2 ⊢
    by_cases e1 : x = y
    · subst e1
      rw [if_pos rfl] at h1
      by_cases e2 : x = z
      · subst e2
        rw [if_pos rfl] at h2 ⊢
        exact lex_trans xs ys zs h1 h2
      · rw [if_neg e2] at h2 ⊢
        exact h2
    · rw [if_neg e1] at h1
      by_cases e2 : y = z
      · subst e2
        rw [if_neg e1]
        exact h1
      · rw [if_neg e2] at h2
        simp only [decide_eq_true_eq] at h1 h2
        have : x ≠ z := by omega
        rw [if_neg this]
        simp
        omega
theorem lex_asym {a b : List Int} (h : lexI a b = true) : lexI b a = false := by
  cases q : lexI b a with
  | false => rfl
  | true =>
    have := lex_trans a b a h q
    rw [lex_irr] at this
    cases this
theorem insT_comm (x y : List Int) : ∀ L, insT x (insT y L) = insT y (insT x L)
  | [] => by
    simp only [insT]
    rcases lex_tri x y with q | q | q
    · simp [q, lex_asym q]
    · subst q; rfl
    · simp [q, lex_asym q]
  | z :: r => by
    have ih := insT_comm x y r
    cases h1 : lexI z x <;> cases h2 : lexI z y
    · simp only [insT, h1, h2, Bool.false_eq_true, if_false]
      rcases lex_tri x y with q | q | q
      · simp [q, lex_asym q, h2]
      · subst q; rfl
      · simp [q, lex_asym q, h1]
    · have hx : lexI x y = true := by
        rcases lex_tri z x with q | q | q
        · rw [q] at h1; cases h1
        · rw [← q]; exact h2
        · exact lex_trans x z y q h2
      simp [insT, h1, h2, hx]
    · have hy : lexI y x = true := by
        rcases lex_tri z y with q | q | q
        · rw [q] at h2; cases h2
        · rw [← q]; exact h1
        · exact lex_trans y z x q h1
      simp [insT, h1, h2, hy]
    · simp [insT, h1, h2, ih]
theorem sortT_eq {L L' : List (List Int)} (p : L.Perm L') : sortT L = sortT L' := by
  induction p with
  | nil => rfl
  | cons x _ ih => simp only [sortT, ih]
  | swap x y r => simp only [sortT]; exact insT_comm y x _
  | trans _ _ h1 h2 => exact h1.trans h2
theorem insT_perm (x : List Int) : ∀ L, (insT x L).Perm (x :: L)
  | [] => .refl _
  | y :: r => by
    simp only [insT]
    split
    · exact ((insT_perm x r).cons y).trans (.swap x y r)
    · exact .refl _
theorem sortT_perm' : ∀ L, (sortT L).Perm L
  | [] => .refl _
  | x :: r => (insT_perm x (sortT r)).trans ((sortT_perm' r).cons x)
theorem srt_eq {A B : List (List Nat)} (p : A.Perm B) : srt A = srt B := by
  unfold srt
  rw [sortT_eq (p.map toI)]
/-- the sorted ways as ways -/
def unI (u : List Int) : List Nat := u.map Int.toNat
theorem un_to (w : List Nat) : unI (toI w) = w := by
  unfold unI toI
  rw [List.map_map]
  conv => rhs; rw [← List.map_id w]
  exact List.map_congr_left fun n _ => Int.toNat_natCast n
def sortN (A : List (List Nat)) : List (List Nat) := (sortT (A.map toI)).map unI
theorem sortN_perm (A : List (List Nat)) : (sortN A).Perm A := by
  unfold sortN
  refine ((sortT_perm' (A.map toI)).map unI).trans ?_
  rw [List.map_map]
  have : (unI ∘ toI) = id := by funext w; exact un_to w
  rw [this, List.map_id]
theorem srt_dI (A : List (List Nat)) : srt A = (sortN A).map dI := by
  unfold srt sortN
  rw [List.map_map]
  refine List.map_congr_left fun u hu => ?_
  have hm := (sortT_perm' (A.map toI)).mem_iff.mp hu
  obtain ⟨w, _, rfl⟩ := List.mem_map.mp hm
  rw [Function.comp_apply, un_to]
  simp only [dI, ofInts, toI, List.map_map]
  rfl
/-! ### which lists are ways -/
def X (ws : List (List Nat)) (way : List Nat) (k : Nat) : Nat := ent ws k (way.take (k + 1))
theorem X_app {ws : List (List Nat)} {p : List Nat} {x k : Nat} (hk : k < p.length) : X ws (p ++ [x]) k = X ws p k := by
  unfold X
  rw [List.take_append_of_le_length (by omega)]
theorem X_zero {ws : List (List Nat)} {way : List Nat} (h : 0 < way.length) : X ws way 0 = way.getD 0 0 := by
  show (way.take (0 + 1)).getLastD 0 = _
  rw [take_last h]
  simp [h]
theorem X_succ {ws : List (List Nat)} {way : List Nat} {k : Nat} (h : k + 1 < way.length) : X ws way (k + 1) = if k < ws.length then (ws.getD k []).getD (way.getD (k + 1) 0) 0 else way.getD (k + 1) 0 := by
  show (if k < ws.length then (ws.getD k []).getD ((way.take (k + 1 + 1)).getLastD 0) 0 else (way.take (k + 1 + 1)).getLastD 0) = _
  rw [take_last h]
  simp [h]
theorem two_iff {y x : Nat} : (x = y - y % 2 ∨ x = y - y % 2 + 1) ↔ x / 2 = y / 2 := by omega
theorem go_iff {ws : List (List Nat)} {one : Nat} : ∀ (r : Nat) (way : List Nat), way ∈ go ws one r ↔ way.length = r + 1 ∧ way.getD 0 0 = one ∧ ∀ i, i < r → way.getD (i + 1) 0 / 2 = X ws way i / 2
  | 0, way => by
    simp only [go, List.mem_singleton]
    constructor
    · rintro rfl
      exact ⟨rfl, rfl, fun i hi => by omega⟩
    · rintro ⟨h1, h2, _⟩
      match way, h1, h2 with
      | [x], _, h2 => simp at h2; rw [h2]
  | r + 1, way => by
    simp only [go, List.mem_flatMap]
    constructor
    · rintro ⟨p, hp, hw⟩
      obtain ⟨h1, h2, h3⟩ := (go_iff r p).mp hp
      obtain ⟨x, rfl, hx⟩ : ∃ x, way = p ++ [x] ∧ x / 2 = ent ws r p / 2 := by
        simp only [two, List.mem_cons, List.not_mem_nil, or_false] at hw
        rcases hw with rfl | rfl
        · exact ⟨_, rfl, two_iff.mp (.inl rfl)⟩
        · exact ⟨_, rfl, two_iff.mp (.inr rfl)⟩
      refine ⟨by simp [h1], ?_, fun i hi => ?_⟩
      · rw [List.getD_eq_getElem?_getD, List.getElem?_append_left (by omega), ← List.getD_eq_getElem?_getD]
        exact h2
      · rw [X_app (by omega)]
        by_cases hir : i < r
        · rw [List.getD_eq_getElem?_getD, List.getElem?_append_left (by omega), ← List.getD_eq_getElem?_getD]
          exact h3 i hir
        · have : i = r := by omega
          subst this
          have e1 : (p ++ [x]).getD (i + 1) 0 = x := by
            rw [List.getD_eq_getElem?_getD, ← h1]
            simp
          have e2 : X ws p i = ent ws i p := by
            unfold X
            rw [List.take_of_length_le (by omega)]
          rw [e1, e2]
          exact hx
    · rintro ⟨h1, h2, h3⟩
      have hne : way ≠ [] := fun z => by rw [z] at h1; simp at h1
      obtain ⟨p, x, rfl⟩ : ∃ p x, way = p ++ [x] := ⟨way.dropLast, way.getLast hne, (List.dropLast_concat_getLast hne).symm⟩
      have hpl : p.length = r + 1 := by simpa using h1
      refine ⟨p, (go_iff r p).mpr ⟨hpl, ?_, fun i hi => ?_⟩, ?_⟩
      · rw [List.getD_eq_getElem?_getD, List.getElem?_append_left (by omega), ← List.getD_eq_getElem?_getD] at h2
        exact h2
      · have := h3 i (by omega)
        rw [X_app (by omega), List.getD_eq_getElem?_getD, List.getElem?_append_left (by omega), ← List.getD_eq_getElem?_getD] at this
        exact this
      · have := h3 r (by omega)
        rw [X_app (by omega)] at this
        have e1 : (p ++ [x]).getD (r + 1) 0 = x := by
          rw [List.getD_eq_getElem?_getD, ← hpl]
          simp
        have e2 : X ws p r = ent ws r p := by
          unfold X
          rw [List.take_of_length_le (by omega)]
        rw [e1, e2] at this
        simp only [two, List.mem_cons, List.not_mem_nil, or_false]
        rcases two_iff.mpr this with q | q
        · exact .inl (by rw [q])
        · exact .inr (by rw [q])
theorem go_nodup (ws : List (List Nat)) (one : Nat) : ∀ r, (go ws one r).Nodup
  | 0 => by simp [go]
  | r + 1 => by
    have ih := go_nodup ws one r
    simp only [go]
    unfold List.Nodup
    rw [List.pairwise_flatMap]
    refine ⟨fun a _ => ?_, ih.imp fun {a c} hne x hx y hy => ?_⟩
    · simp [two]
    · simp only [two, List.mem_cons, List.not_mem_nil, or_false] at hx hy
      rintro rfl
      have : a = c := by
        rcases hx with rfl | rfl <;> rcases hy with q | q <;> exact (List.append_inj' q rfl).1
      exact hne this
end K02

/-! KN: the ways of the net turned -/
namespace K02
open Ez Ez2
/-- the net's rows the other way round -/
def far (ws : List (List Nat)) : List (List Nat) := (ws.map inv).reverse
theorem far_len (ws : List (List Nat)) : (far ws).length = ws.length := by simp [far]
theorem far_ok {b : Nat} {ws : List (List Nat)} (N : NetOk b ws) : NetOk b (far ws) := by
  refine ⟨N.b1, N.b3, by rw [far_len]; exact N.w3, fun w hw => ?_⟩
  simp only [far, List.mem_reverse, List.mem_map] at hw
  obtain ⟨v, hv, rfl⟩ := hw
  exact inv_ok (N.p v hv)
theorem far_far {b : Nat} {ws : List (List Nat)} (N : NetOk b ws) : far (far ws) = ws := by
  unfold far
  rw [List.map_reverse, List.reverse_reverse, List.map_map]
  conv => rhs; rw [← List.map_id ws]
  exact List.map_congr_left fun w hw => inv_inv (N.p w hw)
theorem far_get {ws : List (List Nat)} {i : Nat} (h : i < ws.length) : (far ws).getD i [] = inv (ws.getD (ws.length - 1 - i) []) := by
  unfold far
  rw [List.getD_eq_getElem?_getD, List.getD_eq_getElem?_getD, List.getElem?_reverse (by simpa using h), List.length_map, List.getElem?_map, List.getElem?_eq_getElem (by omega)]
  rfl
theorem bk_len (ws : List (List Nat)) (way : List Nat) (n : Nat) : (bk ws way n).length = n := by rw [bk_eq]; simp
theorem bk_get {ws : List (List Nat)} {way : List Nat} {n j : Nat} (h : j < n) : (bk ws way n).getD j 0 = X ws way (n - 1 - j) := by
  rw [bk_eq, List.getD_eq_getElem?_getD, List.getElem?_map, List.getElem?_reverse (by simpa using h), List.length_range, List.getElem?_range (by omega)]
  rfl
section
variable {b : Nat} {ws : List (List Nat)} {way : List Nat} {n : Nat}
theorem back_len (hl : way.length = n + 1) : (back ws way).length = n + 1 := by
  unfold back
  rw [hl, List.length_cons, bk_len]
  omega
theorem back_zero (hl : way.length = n + 1) : (back ws way).getD 0 0 = way.getD n 0 := by
  show way.getLastD 0 = _
  rw [List.getLastD_eq_getLast?, List.getLast?_eq_getElem?, hl, List.getD_eq_getElem?_getD]
  rfl
theorem back_succ (hl : way.length = n + 1) {j : Nat} (hj : j < n) : (back ws way).getD (j + 1) 0 = X ws way (n - 1 - j) := by
  unfold back
  rw [hl, List.getD_cons_succ]
  exact bk_get (by omega)
theorem lastD_getD (hl : way.length = n + 1) : way.getLastD 0 = way.getD n 0 := by
  rw [List.getLastD_eq_getLast?, List.getLast?_eq_getElem?, hl, List.getD_eq_getElem?_getD]
  rfl
/-- the wire by which the way back enters a row is the one by which the way leaves it -/
theorem back_X (N : NetOk b ws) (hn : n = ws.length + 1) (hl : way.length = n + 1) (hlt : ∀ x ∈ way, x < 2 ^ b) {i : Nat} (hi : i < n) : X (far ws) (back ws way) i = way.getD (n - i) 0 := by
  have hbl := back_len (ws := ws) hl
  cases i with
  | zero =>
    rw [X_zero (by omega), back_zero hl]
    rfl
  | succ i =>
    rw [X_succ (by omega), far_len, if_pos (by omega), back_succ hl (by omega), far_get (by omega)]
    obtain ⟨k, hk⟩ : ∃ k, k = ws.length - 1 - i := ⟨_, rfl⟩
    have e1 : n - 1 - i = k + 1 := by omega
    have e2 : n - (i + 1) = k + 1 := by omega
    rw [← hk, e1, e2, X_succ (by omega), if_pos (by omega)]
    have hkw : k < ws.length := by omega
    have p := N.p _ (List.getElem_mem hkw)
    have hy : way.getD (k + 1) 0 < ws[k].length := by
      rw [perm_len p, List.getD_eq_getElem?_getD, List.getElem?_eq_getElem (by omega)]
      exact hlt _ (List.getElem_mem _)
    have e3 : ws.getD k [] = ws[k] := by rw [List.getD_eq_getElem?_getD, List.getElem?_eq_getElem hkw]; rfl
    rw [e3]
    have e4 : ws[k].getD (way.getD (k + 1) 0) 0 = ws[k][way.getD (k + 1) 0] := by
      rw [List.getD_eq_getElem?_getD, List.getElem?_eq_getElem hy]
      rfl
    rw [e4]
    exact inv_at p hy
theorem back_back (N : NetOk b ws) (hn : n = ws.length + 1) (hl : way.length = n + 1) (hlt : ∀ x ∈ way, x < 2 ^ b) : back (far ws) (back ws way) = way := by
  have hbl := back_len (ws := ws) hl
  have hbl2 := back_len (ws := far ws) hbl
  apply List.ext_getElem (by omega)
  intro j h1 h2
  have g : ∀ (v : List Nat) (hv : j < v.length), v[j] = v.getD j 0 := fun v hv => by rw [List.getD_eq_getElem?_getD, List.getElem?_eq_getElem hv]; rfl
  rw [g _ h1, g _ h2]
  cases j with
  | zero =>
    rw [back_zero hbl]
    have e : n = (n - 1) + 1 := by omega
    rw [e, back_succ hl (by omega)]
    have : n - 1 - (n - 1) = 0 := by omega
    rw [this, X_zero (by omega)]
  | succ j =>
    rw [back_succ hbl (by omega), back_X N hn hl hlt (by omega)]
    congr 1
    omega
theorem back_mem (N : NetOk b ws) {one other : Nat} (h1 : one < 2 ^ b) (h : way ∈ waysL ws one other) : back ws way ∈ waysL (far ws) other one := by
  obtain ⟨hg, hlast⟩ := List.mem_filter.mp h
  have hlt := go_lt N h1 _ way hg
  obtain ⟨hl, h0, hs⟩ := (go_iff _ _).mp hg
  simp only [decide_eq_true_eq] at hlast
  have hbl := back_len (ws := ws) hl
  refine List.mem_filter.mpr ⟨(go_iff _ _).mpr ⟨by rw [far_len]; exact hbl, ?_, fun i hi => ?_⟩, ?_⟩
  · rw [back_zero hl, ← lastD_getD hl]
    exact hlast
  · rw [far_len] at hi
    rw [back_succ hl hi, back_X N rfl hl hlt hi]
    have := hs (ws.length + 1 - 1 - i) (by omega)
    have e : ws.length + 1 - 1 - i + 1 = ws.length + 1 - i := by omega
    rw [e] at this
    exact this.symm
  · simp only [decide_eq_true_eq]
    rw [lastD_getD hbl]
    rw [back_succ hl (by omega)]
    have : ws.length + 1 - 1 - ws.length = 0 := by omega
    rw [this, X_zero (by omega)]
    exact h0
/-- the ways of the net turned are the ways the other way round -/
theorem back_perm (N : NetOk b ws) {one other : Nat} (h1 : one < 2 ^ b) (h2 : other < 2 ^ b) : ((waysL ws one other).map (back ws)).Perm (waysL (far ws) other one) := by
  have nd : ∀ (ws : List (List Nat)) (one other : Nat), (waysL ws one other).Nodup := fun ws one other => (go_nodup ws one _).filter _
  have info : ∀ {ws : List (List Nat)} {one other : Nat} {way : List Nat}, NetOk b ws → one < 2 ^ b → way ∈ waysL ws one other → way.length = ws.length + 1 + 1 ∧ ∀ x ∈ way, x < 2 ^ b := fun N h1 h => by
    obtain ⟨hg, _⟩ := List.mem_filter.mp h
    exact ⟨go_way _ _ hg, go_lt N h1 _ _ hg⟩
  refine (List.perm_ext_iff_of_nodup (nodup_map ?_ (nd ws one other)) (nd _ _ _)).mpr fun v => ?_
  · intro x hx y hy e
    obtain ⟨a1, a2⟩ := info N h1 hx
    obtain ⟨b1, b2⟩ := info N h1 hy
    rw [← back_back N rfl a1 a2, ← back_back N rfl b1 b2, e]
  · rw [List.mem_map]
    constructor
    · rintro ⟨w, hw, rfl⟩
      exact back_mem N h1 hw
    · intro hv
      have Nf := far_ok N
      obtain ⟨a1, a2⟩ := info Nf h2 hv
      have m := back_mem Nf h2 hv
      rw [far_far N] at m
      refine ⟨back (far ws) v, m, ?_⟩
      have := back_back Nf (n := (far ws).length + 1) rfl a1 a2
      rw [far_far N] at this
      exact this
/-- sorted, they are the same -/
theorem srt_back (N : NetOk b ws) {one other : Nat} (h1 : one < 2 ^ b) (h2 : other < 2 ^ b) : srt ((sortN (waysL ws one other)).map (back ws)) = srt (waysL (far ws) other one) :=
  srt_eq (((sortN_perm _).map _).trans (back_perm N h1 h2))
/-! ### how many -/
theorem cnt_succ {α : Type} (f : α → Nat) (i : Nat) : ∀ L : List α, (L.filter fun w => decide (f w < i + 1)).length = (L.filter fun w => decide (f w < i)).length + (L.filter fun w => decide (f w = i)).length
  | [] => rfl
  | a :: r => by
    have ih := cnt_succ f i r
    simp only [List.filter_cons]
    by_cases c1 : f a < i
    · have c2 : f a < i + 1 := by omega
      have c3 : ¬ f a = i := by omega
      simp only [c1, c2, c3, decide_true, decide_false, if_true, Bool.false_eq_true, if_false, List.length_cons, ih]
      omega
    · by_cases c3 : f a = i
      · have c2 : f a < i + 1 := by omega
        simp only [c1, c2, decide_true, decide_false, if_true, Bool.false_eq_true, if_false, List.length_cons, ih, decide_eq_true c3]
        omega
      · have c2 : ¬ f a < i + 1 := by omega
        simp only [c1, c2, c3, decide_false, Bool.false_eq_true, if_false, ih]
def below (ws : List (List Nat)) (one i : Nat) : Nat := ((go ws one (ws.length + 1)).filter fun w => decide (w.getLastD 0 < i)).length
theorem below_zero (one : Nat) : below ws one 0 = 0 := by simp [below]
theorem below_succ (one i : Nat) : below ws one (i + 1) = below ws one i + (waysL ws one i).length := cnt_succ (fun w : List Nat => w.getLastD 0) i _
theorem below_all (N : NetOk b ws) {one : Nat} (h1 : one < 2 ^ b) : below ws one (2 ^ b) = 2 ^ (ws.length + 1) := by
  unfold below
  rw [List.filter_eq_self.mpr ?_, go_len]
  intro w hw
  have hl := go_way _ w hw
  simp only [decide_eq_true_eq]
  rw [lastD_getD hl, List.getD_eq_getElem?_getD, List.getElem?_eq_getElem (by omega)]
  exact go_lt N h1 _ w hw _ (List.getElem_mem _)
end
end K02

/-! KO: like, right -/
namespace K02
open Ez Ez2
mutual
theorem same_rfl : ∀ p : P, same p p = true
  | .non => by simp [same]
  | .bl _ => by simp [same]
  | .int _ => by simp [same]
  | .str _ => by simp [same]
  | .tup xs => by simp only [same]; exact sames_rfl xs
  | .lst xs => by simp only [same]; exact sames_rfl xs
theorem sames_rfl : ∀ ps : List P, sames ps ps = true
  | [] => by simp [sames]
  | p :: ps => by simp only [sames, same_rfl p, sames_rfl ps, Bool.and_self]
end
/-- small data, and how much of it -/
def sm : Nat → D → Bool
  | _, .int i => Nat.ble i.natAbs 999
  | n + 1, .tup xs => xs.all (sm n)
  | _, _ => false
def sz : Nat → D → Nat
  | n + 1, .tup xs => (xs.map fun x => sz n x + 1).sum
  | _, _ => 12
theorem wt_int {i : Int} (h : i.natAbs ≤ 999) : wtP (.int i) ≤ 12 := by
  simp only [wtP]
  split
  · omega
  · have : i.natAbs.log2 < 10 := by
      by_cases z : i.natAbs = 0
      · rw [z]; decide
      · rw [Nat.log2_lt z]; omega
    omega
theorem sm_ok (h : Hh) : ∀ (n : Nat) (d : D), sm n d = true → ∃ p, toP h n d = some p ∧ showP p = true ∧ wtP p ≤ sz n d
  | 0, d, e => by
    cases d <;> simp [sm] at e
    rename_i i
    have : i.natAbs ≤ 999 := by simpa using e
    exact ⟨.int i, rfl, by simp [showP]; omega, wt_int this⟩
  | n + 1, d, e => by
    cases d with
    | int i =>
      have : i.natAbs ≤ 999 := Nat.le_of_ble_eq_true e
      exact ⟨.int i, rfl, by simp [showP]; omega, wt_int this⟩
    | tup xs =>
      have all : ∀ xs : List D, xs.all (sm n) = true → ∃ ps, mapO (toP h n) xs = some ps ∧ showPs ps = true ∧ wtPs ps ≤ (xs.map fun x => sz n x + 1).sum := by
        intro xs
        induction xs with
        | nil => intro _; exact ⟨[], rfl, by simp [showPs], by simp [wtPs]⟩
        | cons x r ih =>
          intro q
          rw [List.all_cons, Bool.and_eq_true] at q
          obtain ⟨p, a1, a2, a3⟩ := sm_ok h n x q.1
          obtain ⟨ps, b1, b2, b3⟩ := ih q.2
          refine ⟨p :: ps, by simp [mapO, a1, b1], by simp [showPs, a2, b2], ?_⟩
          simp only [wtPs, List.map_cons, List.sum_cons]
          omega
      obtain ⟨ps, b1, b2, b3⟩ := all xs (by simpa [sm] using e)
      exact ⟨.tup ps, by simp [toP, b1], by simpa [showP] using b2, by simpa [wtP, sz] using b3⟩
    | _ => simp [sm] at e
theorem sms_ok (h : Hh) (n : Nat) : ∀ xs : List D, xs.all (sm n) = true → ∃ ps, mapO (toP h n) xs = some ps ∧ showPs ps = true ∧ wtPs ps ≤ (xs.map fun x => sz n x + 1).sum := by
  intro xs
  induction xs with
  | nil => intro _; exact ⟨[], rfl, by simp [showPs], by simp [wtPs]⟩
  | cons x r ih =>
    intro q
    rw [List.all_cons, Bool.and_eq_true] at q
    obtain ⟨p, a1, a2, a3⟩ := sm_ok h n x q.1
    obtain ⟨ps, b1, b2, b3⟩ := ih q.2
    refine ⟨p :: ps, by simp [mapO, a1, b1], by simp [showPs, a2, b2], ?_⟩
    simp only [wtPs, List.map_cons, List.sum_cons]
    omega
theorem repr_ok {h : Hh} {d : D} {p : P} (e : toP h DP d = some p) (h1 : showP p = true) (h2 : wtP p ≤ 1048576) : bi .repr1 [d] h = some (.rp p, h) := by
  show (toP h DP d).bind _ = _
  rw [e]
  show (if (showP p && decide (wtP p ≤ 1048576)) = true then _ else _) = _
  rw [if_pos (by rw [h1, decide_eq_true h2]; rfl)]
theorem c15 {l : Nat} {h : Hh} {a c : Nat} {xs : List D} (ea : getL h a = some xs) (ec : getL h c = some xs) (hs : xs.all (sm 39) = true) (hz : (xs.map fun x => sz 39 x + 1).sum ≤ 1000000) : docall (lim T) l 15 [.ref a, .ref c] h = some (.bl true, h) := by
  obtain ⟨ps, e1, e2, e3⟩ := sms_ok h 39 xs hs
  have ta : toP h DP (.ref a) = some (.lst ps) := by
    show (getL h a).bind _ = _
    rw [ea]
    show (mapO (toP h 39) xs).bind _ = _
    rw [e1]
    rfl
  have tc : toP h DP (.ref c) = some (.lst ps) := by
    show (getL h c).bind _ = _
    rw [ec]
    show (mapO (toP h 39) xs).bind _ = _
    rw [e1]
    rfl
  have s1 : showP (.lst ps) = true := by simpa [showP] using e2
  have w1 : wtP (.lst ps) ≤ 1048576 := by simp only [wtP]; omega
  rw [docall_ref (by simp [norefs, noref]), ca_eq (F := ⟨2, 2, b15⟩) rfl rfl]
  have s0 : start 2 [.ref a, .ref c] = [some (.ref a), some (.ref c)] := rfl
  simp only [s0, b15, ss1, ss0, s_ret, l_cmp, l_bi, l_es1, l_es0, l_var, List.getElem?_cons_succ, List.getElem?_cons_zero, Option.bind_some, repr_ok ta s1 w1, repr_ok tc s1 w1, cmpop, eqD, same_rfl, if_true]
/-! ### the sizes of what is told -/
theorem sm_int {n k : Nat} (h : k ≤ 999) : sm n (.int (k : Nat)) = true := by
  cases n <;> exact Nat.ble_eq_true_of_le (by simpa using h)
theorem sm_dI {n : Nat} {w : List Nat} (h : ∀ x ∈ w, x ≤ 999) : sm (n + 1) (dI w) = true := by
  simp only [dI, sm, List.all_map, List.all_eq_true]
  intro x hx
  exact sm_int (h x hx)
theorem sz_int {n k : Nat} : sz n (.int (k : Nat)) = 12 := by cases n <;> rfl
theorem sum_const {α : Type} {f : α → Nat} {c : Nat} : ∀ {L : List α}, (∀ x ∈ L, f x ≤ c) → (L.map f).sum ≤ c * L.length
  | [], _ => by simp
  | a :: r, h => by
    have ih := sum_const (f := f) (c := c) (L := r) fun x hx => h x (List.mem_cons_of_mem _ hx)
    have := h a List.mem_cons_self
    rw [List.map_cons, List.sum_cons, List.length_cons, Nat.mul_succ]
    omega
theorem sz_dI {n : Nat} {w : List Nat} : sz (n + 1) (dI w) ≤ 13 * w.length := by
  simp only [dI, sz, List.map_map]
  exact sum_const fun x _ => by simp [sz_int]
section
variable {b : Nat} {ws : List (List Nat)}
theorem sm_srt {n : Nat} {A : List (List Nat)} (h : ∀ w ∈ A, ∀ x ∈ w, x ≤ 999) : sm (n + 2) (.tup (srt A)) = true := by
  rw [srt_dI]
  simp only [sm, List.all_map, List.all_eq_true]
  intro w hw
  exact sm_dI (h w ((sortN_perm A).mem_iff.mp hw))
theorem sz_srt {n k m : Nat} {A : List (List Nat)} (h : ∀ w ∈ A, w.length ≤ k) (hm : A.length ≤ m) : sz (n + 2) (.tup (srt A)) ≤ (13 * k + 1) * m := by
  rw [srt_dI]
  simp only [sz, List.map_map]
  refine Nat.le_trans (sum_const (c := 13 * k + 1) fun w hw => ?_) ?_
  · have h1 : sz (n + 1) (dI w) ≤ 13 * w.length := sz_dI
    have h2 := h w ((sortN_perm A).mem_iff.mp hw)
    have h3 : 13 * w.length ≤ 13 * k := Nat.mul_le_mul_left _ h2
    show sz (n + 1) (dI w) + 1 ≤ _
    omega
  · exact Nat.mul_le_mul_left _ (by rw [(sortN_perm A).length_eq]; exact hm)
theorem ways_small (N : NetOk b ws) {one other : Nat} (h1 : one < 2 ^ b) : (∀ w ∈ waysL ws one other, ∀ x ∈ w, x ≤ 999) ∧ (∀ w ∈ waysL ws one other, w.length ≤ 5) ∧ (waysL ws one other).length ≤ 16 := by
  have hp := pow8 N.b3
  have hw := N.w3
  refine ⟨fun w hw x hx => ?_, fun w hw => ?_, ?_⟩
  · have := go_lt N h1 _ w (List.mem_filter.mp hw).1 x hx
    omega
  · have := go_way _ w (List.mem_filter.mp hw).1
    omega
  · refine Nat.le_trans (List.length_filter_le _ _) ?_
    rw [go_len]
    exact Nat.pow_le_pow_right (n := 2) (j := 4) (by decide) (by omega)
theorem net_small {n : Nat} (N : NetOk b ws) : sm (n + 3) (dNet b ws) = true ∧ sz (n + 3) (dNet b ws) ≤ 1000 := by
  have hp := pow8 N.b3
  have hb := N.b3
  have hw := N.w3
  constructor
  · have : sm (n + 2) (.tup (ws.map dI)) = true := by
      simp only [sm, List.all_map, List.all_eq_true]
      intro w hw
      exact sm_dI fun x hx => by have := perm_lt (N.p w hw) x hx; omega
    have hi : sm (n + 2) (.int (b : Nat)) = true := sm_int (by omega)
    show [D.int (b : Nat), .tup (ws.map dI)].all (sm (n + 2)) = true
    rw [List.all_cons, List.all_cons, List.all_nil, this, hi]
    rfl
  · have : sz (n + 2) (.tup (ws.map dI)) ≤ (13 * 8 + 1) * 3 := by
      simp only [sz, List.map_map]
      refine Nat.le_trans (sum_const (c := 13 * 8 + 1) fun w hw => ?_) (Nat.mul_le_mul_left _ hw)
      have h1 : sz (n + 1) (dI w) ≤ 13 * w.length := sz_dI
      have h2 := perm_len (N.p w hw)
      show sz (n + 1) (dI w) + 1 ≤ _
      omega
    show sz (n + 2) (.int (b : Nat)) + 1 + (sz (n + 2) (.tup (ws.map dI)) + 1 + 0) ≤ 1000
    rw [sz_int]
    omega
end
end K02

/-! KP: right -/
namespace K02
open Ez Ez2
def in22 : List CS := [(.asg (.nm 9) (.call 20 [(.var 0), (.var 3), (.var 8)])), (.asg (.nm 7) (.bin .add (.var 7) (.bi .len [(.var 9)]))), (.asg (.nm 10) (.bi .tuple1 [(.bi .sorted1 [(.lc [11] (.call 21 [(.var 0), (.var 11)]) (.nm 11) (.ex (.var 9)) [])])])), (.asg (.nm 2) (.lst [(.call 10 [(.var 0), (.var 3), (.var 8)]), (.call 10 [(.var 0), (.var 3), (.var 8)]), (.call 10 [(.var 6), (.var 8), (.var 3)])])), (.ife (.not_ (.call 15 [(.var 2), (.lst [(.bi .tuple1 [(.var 9)]), (.bi .tuple1 [(.var 9)]), (.var 10)])])) [(.ret (.cst (.bl false)))] [])]
def out22 : List CS := [(.asg (.nm 7) (.cst (.int 0))), (.for_ (.nm 8) (.rg1 (.var 4)) in22), (.ife (.cmp .ne (.var 7) (.call 16 [(.var 5)])) [(.ret (.cst (.bl false)))] [])]
theorem b22_eq : b22 = [(.par [4, 5, 6] [(.call 16 [(.sub (.var 0) (.cst (.int 0)))]), (.bin .add (.bi .len [(.sub (.var 0) (.cst (.int 1)))]) (.cst (.int 1))), (.call 7 [(.var 0)])]), (.asg (.nm 2) (.lst [(.call 5 [(.var 0)]), (.call 6 [(.var 0)]), (.call 7 [(.var 6)]), (.call 6 [(.var 6)])])), (.ife (.not_ (.call 15 [(.var 2), (.lst [(.var 4), (.var 5), (.var 0), (.var 5)])])) [(.ret (.cst (.bl false)))] []), (.for_ (.nm 3) (.ex (.var 1)) out22), (.ret (.cst (.bl true)))] := rfl
section
variable {b : Nat} {ws : List (List Nat)} {l : Nat}
theorem in22_ok (N : NetOk b ws) {one other tot m dp : Nat} (hm : m = 2 ^ b) (h1 : one < 2 ^ b) (h2 : other < 2 ^ b) {s1 s2 s9 s10 s11 : Option D} {h : Hh} :
    ∃ t2 t9 t10 t11 e, lim T .ss (l + 5, in22, [some (dNet b ws), s1, s2, some (.int (one : Nat)), some (.int (m : Nat)), some (.int (dp : Nat)), some (dNet b (far ws)), some (.int (tot : Nat)), some (.int (other : Nat)), s9, s10, s11], h) =
      some (.nx, [some (dNet b ws), s1, t2, some (.int (one : Nat)), some (.int (m : Nat)), some (.int (dp : Nat)), some (dNet b (far ws)), some (.int ((tot + (waysL ws one other).length : Nat) : Int)), some (.int (other : Nat)), t9, t10, t11], h ++ e) := by
  obtain ⟨A, hA⟩ : ∃ A, A = waysL ws one other := ⟨_, rfl⟩
  have Nf := far_ok N
  obtain ⟨sA1, sA2, sA3⟩ := ways_small N (other := other) h1
  obtain ⟨sB1, sB2, sB3⟩ := ways_small Nf (other := one) h2
  have hback := srt_back N h1 h2
  have hmem : ∀ w ∈ A, w.length = ws.length + 1 + 1 ∧ ∀ x ∈ w, x < 2 ^ b := fun w hw => by
    rw [hA] at hw
    obtain ⟨hg, _⟩ := List.mem_filter.mp hw
    exact ⟨go_way _ _ hg, go_lt N h1 _ _ hg⟩
  rw [← hA] at sA1 sA2 sA3 hback ⊢
  have hlen : (srt A).length = A.length := by rw [srt_dI, List.length_map, (sortN_perm A).length_eq]
  have q20 : docall (lim T) (l + 4) 20 [dNet b ws, .int (one : Nat), .int (other : Nat)] h = some (.ref h.length, h ++ [.lst (srt A)]) := by rw [hA]; exact c20 N h1 other h
  -- back
  have ci : lim T .ci (l + 5, .ex (.var 9), [some (dNet b ws), s1, s2, some (.int (one : Nat)), some (.int (m : Nat)), some (.int (dp : Nat)), some (dNet b (far ws)), some (.int ((tot + A.length : Nat) : Int)), some (.int (other : Nat)), some (.ref h.length), s10, s11], h ++ [.lst (srt A)]) = some (.dy h.length 0, h ++ [.lst (srt A)]) := by
    simp [srcOf, getL]
  obtain ⟨e1, he1⟩ := e_lcmd (T := T) (l := l + 5) (own := [11]) (elt := .call 21 [.var 0, .var 11]) (g := .nm 11) (xs := sortN A) dI (fun w => dI (back ws w)) ci (by simp [getL, srt_dI]) (by
    intro w hw g _ _
    obtain ⟨hl, hlt⟩ := hmem w ((sortN_perm A).mem_iff.mp hw)
    refine ⟨[some (dNet b ws), s1, s2, some (.int (one : Nat)), some (.int (m : Nat)), some (.int (dp : Nat)), some (dNet b (far ws)), some (.int ((tot + A.length : Nat) : Int)), some (.int (other : Nat)), some (.ref h.length), s10, some (dI w)], [], by simp [wipe], ?_⟩
    rw [l_call]
    simp only [l_es1, l_es0, l_var, List.getElem?_cons_succ, List.getElem?_cons_zero, Option.bind_some, c21 (l := l + 4) N (n := ws.length + 1) hl (by omega) hlt, List.append_nil]) (SL_of (by rw [(sortN_perm A).length_eq]; omega))
  have hmap : (sortN A).map (fun w => dI (back ws w)) = ((sortN A).map (back ws)).map dI := by rw [List.map_map]; rfl
  rw [hmap] at he1
  have hso : sorted (((sortN A).map (back ws)).map dI) = some (srt (waysL (far ws) other one)) := by
    rw [← hback]
    refine sorted_dI (n := ws.length + 2) (by rw [List.length_map, (sortN_perm A).length_eq]; omega) (by omega) fun v hv => ?_
    obtain ⟨w, hw, rfl⟩ := List.mem_map.mp hv
    have hwA := (sortN_perm A).mem_iff.mp hw
    have hb := back_mem N h1 (by rw [← hA]; exact hwA)
    have := sB2 _ hb
    refine ⟨back_len (hmem w hwA).1, fun x hx => ?_⟩
    have := sB1 _ hb x hx
    omega
  obtain ⟨g1, hg1⟩ : ∃ g1 : Hh, g1 = h ++ [O.lst (srt A)] := ⟨_, rfl⟩
  obtain ⟨g2, hg2⟩ : ∃ g2 : Hh, g2 = g1 ++ O.lst (((sortN A).map (back ws)).map dI) :: e1 := ⟨_, rfl⟩
  obtain ⟨g3, hg3⟩ : ∃ g3 : Hh, g3 = g2 ++ [O.lst (srt (waysL (far ws) other one))] := ⟨_, rfl⟩
  obtain ⟨g4, hg4⟩ : ∃ g4 : Hh, g4 = g3 ++ [O.lst [.tup (srt A), .tup (srt A), .tup (srt (waysL (far ws) other one))]] := ⟨_, rfl⟩
  obtain ⟨g5, hg5⟩ : ∃ g5 : Hh, g5 = g4 ++ [O.lst [.tup (srt A), .tup (srt A), .tup (srt (waysL (far ws) other one))]] := ⟨_, rfl⟩
  rw [← hg1] at he1 q20
  rw [← hg2] at he1
  have a1 : Agr g1 g4 := by
    rw [hg4, hg3, hg2]
    exact ((Agr.of_app.app _ (by simp)).app _ (by simp))
  have gA : getL g1 h.length = some (srt A) := by rw [hg1]; simp [getL]
  have gA4 : getL g4 h.length = some (srt A) := a1.getL gA
  have gB : getL g2 g1.length = some (((sortN A).map (back ws)).map dI) := by rw [hg2]; simp [getL]
  have gC : getL g3 g2.length = some (srt (waysL (far ws) other one)) := by rw [hg3]; simp [getL]
  have gD : getL g5 g3.length = some [.tup (srt A), .tup (srt A), .tup (srt (waysL (far ws) other one))] := by
    have : Agr g4 g5 := by rw [hg5]; exact Agr.of_app
    refine this.getL ?_
    rw [hg4]
    simp [getL]
  have gE : getL g5 g4.length = some [.tup (srt A), .tup (srt A), .tup (srt (waysL (far ws) other one))] := by rw [hg5]; simp [getL]
  have like : docall (lim T) (l + 4) 15 [.ref g3.length, .ref g4.length] g5 = some (.bl true, g5) := by
    refine c15 gD gE ?_ ?_
    · have x1 : sm 39 (.tup (srt A)) = true := sm_srt sA1
      have x2 : sm 39 (.tup (srt (waysL (far ws) other one))) = true := sm_srt sB1
      simp [x1, x2]
    · have x1 : sz 39 (.tup (srt A)) ≤ (13 * 5 + 1) * 16 := sz_srt sA2 sA3
      have x2 : sz 39 (.tup (srt (waysL (far ws) other one))) ≤ (13 * 5 + 1) * 16 := sz_srt sB2 sB3
      simp only [List.map_cons, List.map_nil, List.sum_cons, List.sum_nil]
      omega
  have hz3 : 3 ≤ SL := SL_le (by decide)
  have w1 : ∀ g, docall (lim T) (l + 4) 10 [dNet b ws, .int (one : Nat), .int (other : Nat)] g = some (.tup (srt A), g) := fun g => by rw [hA]; exact c10 N h1 h2 g
  have w2 : ∀ g, docall (lim T) (l + 4) 10 [dNet b (far ws), .int (other : Nat), .int (one : Nat)] g = some (.tup (srt (waysL (far ws) other one)), g) := fun g => c10 Nf h2 h1 g
  refine ⟨some (.ref g3.length), some (.ref h.length), some (.tup (srt (waysL (far ws) other one))), s11, g5.drop h.length, ?_⟩
  have hfin : h ++ g5.drop h.length = g5 := by
    rw [hg5, hg4, hg3, hg2, hg1]
    simp
  rw [hfin]
  have htot : ((tot : Int) + ((srt A).length : Nat)) = ((tot + A.length : Nat) : Int) := by rw [hlen]; omega
  have st1 : lim T .s (l + 5, (.asg (.nm 9) (.call 20 [(.var 0), (.var 3), (.var 8)])), [some (dNet b ws), s1, s2, some (.int (one : Nat)), some (.int (m : Nat)), some (.int (dp : Nat)), some (dNet b (far ws)), some (.int (tot : Nat)), some (.int (other : Nat)), s9, s10, s11], h) = some (.nx, [some (dNet b ws), s1, s2, some (.int (one : Nat)), some (.int (m : Nat)), some (.int (dp : Nat)), some (dNet b (far ws)), some (.int (tot : Nat)), some (.int (other : Nat)), some (.ref h.length), s10, s11], g1) := by
    simp only [s_asg, l_call, l_es1, l_es0, l_var, List.getElem?_cons_succ, List.getElem?_cons_zero, Option.bind_some, q20, g_nm', List.set_cons_succ, List.set_cons_zero]
  have st2 : lim T .s (l + 5, (.asg (.nm 7) (.bin .add (.var 7) (.bi .len [(.var 9)]))), [some (dNet b ws), s1, s2, some (.int (one : Nat)), some (.int (m : Nat)), some (.int (dp : Nat)), some (dNet b (far ws)), some (.int (tot : Nat)), some (.int (other : Nat)), some (.ref h.length), s10, s11], g1) = some (.nx, [some (dNet b ws), s1, s2, some (.int (one : Nat)), some (.int (m : Nat)), some (.int (dp : Nat)), some (dNet b (far ws)), some (.int ((tot + A.length : Nat) : Int)), some (.int (other : Nat)), some (.ref h.length), s10, s11], g1) := by
    have : bi .len [.ref h.length] g1 = some (.int ((srt A).length : Nat), g1) := by rw [hg1]; simp [bi]
    simp only [s_asg, l_bin, l_bi, l_es1, l_es0, l_var, List.getElem?_cons_succ, List.getElem?_cons_zero, Option.bind_some, this, b_add, htot, g_nm', List.set_cons_succ, List.set_cons_zero]
  have st3 : lim T .s (l + 5, (.asg (.nm 10) (.bi .tuple1 [(.bi .sorted1 [(.lc [11] (.call 21 [(.var 0), (.var 11)]) (.nm 11) (.ex (.var 9)) [])])])), [some (dNet b ws), s1, s2, some (.int (one : Nat)), some (.int (m : Nat)), some (.int (dp : Nat)), some (dNet b (far ws)), some (.int ((tot + A.length : Nat) : Int)), some (.int (other : Nat)), some (.ref h.length), s10, s11], g1) = some (.nx, [some (dNet b ws), s1, s2, some (.int (one : Nat)), some (.int (m : Nat)), some (.int (dp : Nat)), some (dNet b (far ws)), some (.int ((tot + A.length : Nat) : Int)), some (.int (other : Nat)), some (.ref h.length), some (.tup (srt (waysL (far ws) other one))), s11], g3) := by
    have y1 : bi .sorted1 [.ref g1.length] g2 = some (.ref g2.length, g3) := by
      show (getL g2 g1.length).bind _ = _
      rw [gB]
      simp only [Option.bind_some, hso, alloc, hg3]
    have y2 : bi .tuple1 [.ref g2.length] g3 = some (.tup (srt (waysL (far ws) other one)), g3) := by
      show (getL g3 g2.length).bind _ = _
      rw [gC]
      rfl
    simp only [s_asg, l_bi, l_es1, l_es0, Option.bind_some, he1, y1, y2, g_nm', List.set_cons_succ, List.set_cons_zero]
  have st4 : lim T .s (l + 5, (.asg (.nm 2) (.lst [(.call 10 [(.var 0), (.var 3), (.var 8)]), (.call 10 [(.var 0), (.var 3), (.var 8)]), (.call 10 [(.var 6), (.var 8), (.var 3)])])), [some (dNet b ws), s1, s2, some (.int (one : Nat)), some (.int (m : Nat)), some (.int (dp : Nat)), some (dNet b (far ws)), some (.int ((tot + A.length : Nat) : Int)), some (.int (other : Nat)), some (.ref h.length), some (.tup (srt (waysL (far ws) other one))), s11], g3) = some (.nx, [some (dNet b ws), s1, some (.ref g3.length), some (.int (one : Nat)), some (.int (m : Nat)), some (.int (dp : Nat)), some (dNet b (far ws)), some (.int ((tot + A.length : Nat) : Int)), some (.int (other : Nat)), some (.ref h.length), some (.tup (srt (waysL (far ws) other one))), s11], g4) := by
    simp only [s_asg, l_lst, l_call, l_es1, l_es0, l_var, List.getElem?_cons_succ, List.getElem?_cons_zero, Option.bind_some, w1, w2, List.length_cons, List.length_nil, hz3, if_true, alloc, hg4, g_nm', List.set_cons_succ, List.set_cons_zero]
  have st5 : lim T .s (l + 5, (.ife (.not_ (.call 15 [(.var 2), (.lst [(.bi .tuple1 [(.var 9)]), (.bi .tuple1 [(.var 9)]), (.var 10)])])) [(.ret (.cst (.bl false)))] []), [some (dNet b ws), s1, some (.ref g3.length), some (.int (one : Nat)), some (.int (m : Nat)), some (.int (dp : Nat)), some (dNet b (far ws)), some (.int ((tot + A.length : Nat) : Int)), some (.int (other : Nat)), some (.ref h.length), some (.tup (srt (waysL (far ws) other one))), s11], g4) = some (.nx, [some (dNet b ws), s1, some (.ref g3.length), some (.int (one : Nat)), some (.int (m : Nat)), some (.int (dp : Nat)), some (dNet b (far ws)), some (.int ((tot + A.length : Nat) : Int)), some (.int (other : Nat)), some (.ref h.length), some (.tup (srt (waysL (far ws) other one))), s11], g5) := by
    have y3 : bi .tuple1 [.ref h.length] g4 = some (.tup (srt A), g4) := by
      show (getL g4 h.length).bind _ = _
      rw [gA4]
      rfl
    rw [hg5] at like
    simp only [s_ife, t_not, t_call, l_lst, l_call, l_bi, l_es1, l_es0, l_var, List.getElem?_cons_succ, List.getElem?_cons_zero, Option.bind_some, y3, List.length_cons, List.length_nil, hz3, if_true, alloc, like, truth, Bool.not_true, Bool.false_eq_true, if_false, ss0, hg5]
  unfold in22
  simp only [ss1, ss0, st1, st2, st3, st4, st5, Option.bind_some]
theorem c22 (N : NetOk b ws) {n1 : Nat} {spots : List Nat} {h : Hh} (hs : getL h n1 = some (spots.map fun (n : Nat) => D.int n)) (hl : ∀ x ∈ spots, x < 2 ^ b) :
    ∃ e, docall (lim T) (l + 5) 22 [dNet b ws, .ref n1] h = some (.bl true, h ++ e) := by
  obtain ⟨m, hm⟩ : ∃ m, m = 2 ^ b := ⟨_, rfl⟩
  have hp8 := pow8 N.b3
  have hb3 := N.b3
  have hw3 := N.w3
  have Nf := far_ok N
  have c16b := c16 (l := l + 4) b (by omega)
  have c16d := c16 (l := l + 4) (ws.length + 1) (by omega)
  rw [← hm] at c16b
  have c7n : ∀ g, docall (lim T) (l + 4) 7 [dNet b ws] g = some (dNet b (far ws), g) := fun g => c7 l g N
  have c7f : ∀ g, docall (lim T) (l + 4) 7 [dNet b (far ws)] g = some (dNet b ws, g) := fun g => by
    have := c7 l g Nf
    rw [show ((far ws).map inv).reverse = far (far ws) from rfl, far_far N] at this
    exact this
  have c6f : ∀ g, docall (lim T) (l + 4) 6 [dNet b (far ws)] g = some (.int ((ws.length + 1 : Nat) : Int), g) := fun g => by
    have := c6 l g Nf
    rw [far_len] at this
    exact this
  obtain ⟨dp, hdp⟩ : ∃ dp, dp = ws.length + 1 := ⟨_, rfl⟩
  have c6n : ∀ g, docall (lim T) (l + 4) 6 [dNet b ws] g = some (.int (dp : Nat), g) := fun g => by rw [hdp]; exact c6 l g N
  rw [← hdp] at c6f c16d
  have c5n : ∀ g, docall (lim T) (l + 4) 5 [dNet b ws] g = some (.int (m : Nat), g) := fun g => c5 l g N hm
  have st1 : lim T .s (l + 5, (.par [4, 5, 6] [(.call 16 [(.sub (.var 0) (.cst (.int 0)))]), (.bin .add (.bi .len [(.sub (.var 0) (.cst (.int 1)))]) (.cst (.int 1))), (.call 7 [(.var 0)])]), [some (dNet b ws), some (.ref n1), none, none, none, none, none, none, none, none, none, none], h) = some (.nx, [some (dNet b ws), some (.ref n1), none, none, some (.int (m : Nat)), some (.int (dp : Nat)), some (dNet b (far ws)), none, none, none, none, none], h) := by
    have y1 : ∀ g, subscr (dNet b ws) (.int 0) g = some (.int (b : Nat)) := fun g => by simp [dNet, subscr, ixN]
    have y2 : ∀ g, subscr (dNet b ws) (.int 1) g = some (.tup (ws.map dI)) := fun g => by simp [dNet, subscr, ixN]
    have y3 : ∀ g, bi .len [.tup (ws.map dI)] g = some (.int (ws.length : Nat), g) := fun g => by simp [bi]
    have y4 : ((ws.length : Nat) : Int) + 1 = (dp : Nat) := by omega
    simp only [s_par, l_call, l_es1, l_es0, l_var, l_sub, l_cst, l_bin, l_bi, List.getElem?_cons_succ, List.getElem?_cons_zero, Option.bind_some, y1, y2, y3, c16b, b_add, y4, c7n, List.set_cons_succ, List.set_cons_zero]
  obtain ⟨g1, hg1⟩ : ∃ g1 : Hh, g1 = h ++ [O.lst [.int (m : Nat), .int (dp : Nat), dNet b ws, .int (dp : Nat)]] := ⟨_, rfl⟩
  obtain ⟨g2, hg2⟩ : ∃ g2 : Hh, g2 = g1 ++ [O.lst [.int (m : Nat), .int (dp : Nat), dNet b ws, .int (dp : Nat)]] := ⟨_, rfl⟩
  have hz4 : 4 ≤ SL := SL_le (by decide)
  have st2 : lim T .s (l + 5, (.asg (.nm 2) (.lst [(.call 5 [(.var 0)]), (.call 6 [(.var 0)]), (.call 7 [(.var 6)]), (.call 6 [(.var 6)])])), [some (dNet b ws), some (.ref n1), none, none, some (.int (m : Nat)), some (.int (dp : Nat)), some (dNet b (far ws)), none, none, none, none, none], h) = some (.nx, [some (dNet b ws), some (.ref n1), some (.ref h.length), none, some (.int (m : Nat)), some (.int (dp : Nat)), some (dNet b (far ws)), none, none, none, none, none], g1) := by
    simp only [s_asg, l_lst, l_call, l_es1, l_es0, l_var, List.getElem?_cons_succ, List.getElem?_cons_zero, Option.bind_some, c5n, c6n, c7f, c6f, List.length_cons, List.length_nil, hz4, if_true, alloc, hg1, g_nm', List.set_cons_succ, List.set_cons_zero]
  have like : docall (lim T) (l + 4) 15 [.ref h.length, .ref g1.length] g2 = some (.bl true, g2) := by
    have ga : getL g1 h.length = some [.int (m : Nat), .int (dp : Nat), dNet b ws, .int (dp : Nat)] := by rw [hg1]; simp [getL]
    have a12 : Agr g1 g2 := by rw [hg2]; exact Agr.of_app
    refine c15 (a12.getL ga) (by rw [hg2]; simp [getL]) ?_ ?_
    · obtain ⟨x1, _⟩ := net_small (n := 36) N
      have x2 : sm 39 (.int (m : Nat)) = true := sm_int (by omega)
      have x3 : sm 39 (.int (dp : Nat)) = true := sm_int (by omega)
      rw [List.all_cons, List.all_cons, List.all_cons, List.all_cons, List.all_nil, x1, x2, x3]
      rfl
    · have x1 : sz 39 (dNet b ws) ≤ 1000 := (net_small (n := 36) N).2
      have x2 : sz 39 (.int (m : Nat)) = 12 := sz_int
      have x3 : sz 39 (.int (dp : Nat)) = 12 := sz_int
      simp only [List.map_cons, List.map_nil, List.sum_cons, List.sum_nil]
      omega
  have st3 : lim T .s (l + 5, (.ife (.not_ (.call 15 [(.var 2), (.lst [(.var 4), (.var 5), (.var 0), (.var 5)])])) [(.ret (.cst (.bl false)))] []), [some (dNet b ws), some (.ref n1), some (.ref h.length), none, some (.int (m : Nat)), some (.int (dp : Nat)), some (dNet b (far ws)), none, none, none, none, none], g1) = some (.nx, [some (dNet b ws), some (.ref n1), some (.ref h.length), none, some (.int (m : Nat)), some (.int (dp : Nat)), some (dNet b (far ws)), none, none, none, none, none], g2) := by
    rw [hg2] at like
    simp only [s_ife, t_not, t_call, l_lst, l_call, l_es1, l_es0, l_var, List.getElem?_cons_succ, List.getElem?_cons_zero, Option.bind_some, List.length_cons, List.length_nil, hz4, if_true, alloc, like, truth, Bool.not_true, Bool.false_eq_true, if_false, ss0, hg2]
  have a02 : Agr h g2 := by rw [hg2, hg1, List.append_assoc]; exact Agr.of_app
  have l02 : h.length ≤ g2.length := by rw [hg2, hg1]; simp
  have gs2 : getL g2 n1 = some (spots.map fun (n : Nat) => D.int n) := a02.getL hs
  obtain ⟨σ', h', e, I'⟩ := fo_dy (T := T) (l := l + 5) (g := .nm 3) (b := out22) (spots.map fun (n : Nat) => D.int n) n1
    (fun i σ h' => (∃ t2 t3 t7 t8 t9 t10 t11, σ = [some (dNet b ws), some (.ref n1), t2, t3, some (.int (m : Nat)), some (.int (dp : Nat)), some (dNet b (far ws)), t7, t8, t9, t10, t11]) ∧ h.length ≤ h'.length ∧ Agr h h') (by
      rintro i σ h' ⟨_, _, a⟩
      exact a.getL hs) (by
      rintro i x σ h' hx ⟨⟨t2, t3, t7, t8, t9, t10, t11, rfl⟩, hlen, a⟩
      rw [List.getElem?_map] at hx
      obtain ⟨one, hone, rfl⟩ := Option.map_eq_some_iff.mp hx
      have h1 := hl one (List.mem_of_getElem? hone)
      obtain ⟨σ2, h2, e2, ⟨u2, u8, u9, u10, u11, rfl⟩, ll, aa⟩ := fo_rg (T := T) (l := l + 5) (g := .nm 8) (b := in22) (n := m)
        (fun k σ g => (∃ u2 u8 u9 u10 u11, σ = [some (dNet b ws), some (.ref n1), u2, some (.int (one : Nat)), some (.int (m : Nat)), some (.int (dp : Nat)), some (dNet b (far ws)), some (.int (below ws one k : Nat)), u8, u9, u10, u11]) ∧ h.length ≤ g.length ∧ Agr h g) (by
          rintro k σ g hk ⟨⟨u2, u8, u9, u10, u11, rfl⟩, ll, aa⟩
          obtain ⟨v2, v9, v10, v11, e, he⟩ := in22_ok (l := l) N (one := one) (other := k) (tot := below ws one k) (m := m) (dp := dp) (s1 := some (.ref n1)) (s2 := u2) (s9 := u9) (s10 := u10) (s11 := u11) (h := g) hm h1 (by omega)
          rw [← below_succ] at he
          exact ⟨([some (dNet b ws), some (.ref n1), u2, some (.int (one : Nat)), some (.int (m : Nat)), some (.int (dp : Nat)), some (dNet b (far ws)), some (.int (below ws one k : Nat)), some (.int (k : Nat)), u9, u10, u11], g), _, _, by simp, he, ⟨_, _, _, _, _, rfl⟩, by simp; omega, aa.app e ll⟩)
        [some (dNet b ws), some (.ref n1), t2, some (.int (one : Nat)), some (.int (m : Nat)), some (.int (dp : Nat)), some (dNet b (far ws)), some (.int 0), t8, t9, t10, t11] h' ⟨⟨_, _, _, _, _, by rw [below_zero]; rfl⟩, hlen, a⟩
      have hall : below ws one m = 2 ^ dp := by rw [hm, hdp]; exact below_all N h1
      rw [hall] at e2
      have k1 : lim T .ci (l + 5, .rg1 (.var 4), [some (dNet b ws), some (.ref n1), t2, some (.int (one : Nat)), some (.int (m : Nat)), some (.int (dp : Nat)), some (dNet b (far ws)), some (.int 0), t8, t9, t10, t11], h') = some (.it ((List.range m).map fun (i : Nat) => D.int i), h') := i_rg1n (by simp) (by omega)
      refine ⟨([some (dNet b ws), some (.ref n1), t2, some (.int (one : Nat)), some (.int (m : Nat)), some (.int (dp : Nat)), some (dNet b (far ws)), t7, t8, t9, t10, t11], h'), [some (dNet b ws), some (.ref n1), u2, some (.int (one : Nat)), some (.int (m : Nat)), some (.int (dp : Nat)), some (dNet b (far ws)), some (.int ((2 ^ dp : Nat) : Int)), u8, u9, u10, u11], h2, by simp, ?_, ⟨_, _, _, _, _, _, _, rfl⟩, ll, aa⟩
      unfold out22
      simp only [ss1, ss0, s_asg, l_cst, Option.bind_some, g_nm', List.set_cons_succ, List.set_cons_zero, s_for, k1, e2, s_ife, t_cmp, l_cmp, l_call, l_es1, l_es0, l_var, List.getElem?_cons_succ, List.getElem?_cons_zero, c16d, cmpop, eqD, beq_self_eq_true, Bool.not_true, truth, Bool.false_eq_true, if_false]) (spots.map fun (n : Nat) => D.int n).length 0 [some (dNet b ws), some (.ref n1), some (.ref h.length), none, some (.int (m : Nat)), some (.int (dp : Nat)), some (dNet b (far ws)), none, none, none, none, none] g2 (by simp) ⟨⟨_, _, _, _, _, _, _, rfl⟩, l02, a02⟩
  obtain ⟨⟨t2, t3, t7, t8, t9, t10, t11, rfl⟩, ll, aa⟩ := I'
  obtain ⟨ee, hee⟩ := aa.pre ll
  refine ⟨ee, ?_⟩
  rw [← hee, docall_ref (by simp [norefs, noref_net, noref]), ca_eq (F := ⟨2, 12, b22⟩) rfl rfl]
  have s0 : start 12 [dNet b ws, .ref n1] = [some (dNet b ws), some (.ref n1), none, none, none, none, none, none, none, none, none, none] := rfl
  have k2 : lim T .ci (l + 5, .ex (.var 1), [some (dNet b ws), some (.ref n1), some (.ref h.length), none, some (.int (m : Nat)), some (.int (dp : Nat)), some (dNet b (far ws)), none, none, none, none, none], g2) = some (.dy n1 0, g2) := by
    simp [srcOf, gs2]
  simp only [s0, b22_eq, ss1, ss0, st1, st2, st3, Option.bind_some, s_for, k2, e, s_ret, l_cst]
end
end K02

/-! KQ: the drawing state -/
namespace K02
open Ez Ez2
def kC : D := .str [99, 101, 108, 108, 115]
def kG : D := .str [103, 114, 101, 97, 116]
def kS : D := .str [115, 112, 111, 116]
theorem inW_of {i : Int} (h1 : 0 ≤ i) (h2 : i ≤ 1000000000000000) : inW i = true := Nat.ble_eq_true_of_le (by omega)
theorem c11 {l : Nat} {c n : Int} (h : Hh) (c0 : 0 ≤ c) (c1 : c ≤ 1000000000000) (n0 : 0 ≤ n) (n1 : n ≤ 1000000) : ∃ v : Int, docall (lim T) l 11 [.int c, .int n] h = some (.int v, h) ∧ 0 ≤ v ∧ v ≤ 2147483629 := by
  refine ⟨(((c * (3 + 2 * n) * 69621) % 2147483647 + 104729 * n * n + 7919 * n) * 48271) % 2147483629 / 9, ?_, ?_, ?_⟩
  · refine docall_val (h' := []) (by simp [norefs, noref]) ?_ rfl
    rw [ca_eq (F := ⟨2, 3, b11⟩) rfl rfl]
    have s0 : start 3 [.int c, .int n] = [some (.int c), some (.int n), none] := rfl
    have w1 : inW c = true := inW_of c0 (by omega)
    have w2 : inW n = true := inW_of n0 (by omega)
    have i1 : ∀ (i : Int) (g : Hh), bi .int1 [.int i] g = some (.int i, g) := fun _ _ => rfl
    simp only [s0, b11, ss1, ss0, s_asg, s_ret, l_bin, l_bi, l_es1, l_es0, l_var, l_cst, List.getElem?_cons_succ, List.getElem?_cons_zero, Option.bind_some, g_nm', List.set_cons_succ, List.set_cons_zero, b_add,
      b_mulL w1, b_mulL (i := 2) rfl, b_mulR (j := 69621) rfl, i1, b_mod (j := 2147483647) (by decide), b_mulL (i := 104729) rfl, b_mulR w2, b_mulL (i := 7919) rfl, b_mulR (j := 48271) rfl, b_mod (j := 2147483629) (by decide), b_fdiv (j := 9) (by decide) (by decide)]
  · exact Int.ediv_nonneg (Int.emod_nonneg _ (by decide)) (by decide)
  · have h1 := Int.emod_nonneg (((c * (3 + 2 * n) * 69621) % 2147483647 + 104729 * n * n + 7919 * n) * 48271) (show (2147483629 : Int) ≠ 0 by decide)
    have h2 := Int.emod_lt_of_pos (((c * (3 + 2 * n) * 69621) % 2147483647 + 104729 * n * n + 7919 * n) * 48271) (show (0 : Int) < 2147483629 by decide)
    omega
/-- the drawing state -/
structure DS (M A B s : Nat) (h : Hh) : Prop where
  m : h[M]? = some (.dK [(kC, .ref A), (kG, .ref B), (kS, .int (s : Nat))])
  a : ∃ cs : List Int, h[A]? = some (.lst (cs.map D.int)) ∧ cs.length = 64 ∧ ∀ c ∈ cs, 0 ≤ c ∧ c < 2147483647
  b : ∃ gs : List Int, h[B]? = some (.lst (gs.map D.int)) ∧ ∀ g ∈ gs, 0 ≤ g
  ma : M ≠ A
  mb : M ≠ B
  ab : A ≠ B
/-- all but the drawing state stays -/
structure Fr (M B : Nat) (h h' : Hh) : Prop where
  len : h.length ≤ h'.length
  o : ∀ i, i < h.length → i ≠ M → i ≠ B → h'[i]? = h[i]?
theorem Fr.refl {M B : Nat} {h : Hh} : Fr M B h h := ⟨Nat.le_refl _, fun _ _ _ _ => rfl⟩
theorem Fr.trans {M B : Nat} {h h1 h2 : Hh} (a : Fr M B h h1) (c : Fr M B h1 h2) : Fr M B h h2 := ⟨Nat.le_trans a.len c.len, fun i hi n1 n2 => (c.o i (Nat.lt_of_lt_of_le hi a.len) n1 n2).trans (a.o i hi n1 n2)⟩
theorem Fr.app {M B : Nat} {h : Hh} (e : Hh) : Fr M B h (h ++ e) := ⟨by simp, fun i hi _ _ => List.getElem?_append_left hi⟩
theorem DS.app {M A B s : Nat} {h : Hh} (d : DS M A B s h) (e : Hh) : DS M A B s (h ++ e) := by
  have lt : ∀ {n : Nat} {o : O}, h[n]? = some o → (h ++ e)[n]? = some o := fun q => by rw [List.getElem?_append_left (List.getElem?_eq_some_iff.mp q).1]; exact q
  obtain ⟨cs, a1, a2⟩ := d.a
  obtain ⟨gs, b1, b2⟩ := d.b
  exact ⟨lt d.m, ⟨cs, lt a1, a2⟩, ⟨gs, lt b1, b2⟩, d.ma, d.mb, d.ab⟩
theorem DS.set {M A B s n : Nat} {h : Hh} {o : O} (d : DS M A B s h) (n1 : n ≠ M) (n2 : n ≠ A) (n3 : n ≠ B) : DS M A B s (h.set n o) := by
  have st : ∀ {k : Nat}, n ≠ k → (h.set n o)[k]? = h[k]? := fun q => List.getElem?_set_ne q
  obtain ⟨cs, a1, a2⟩ := d.a
  obtain ⟨gs, b1, b2⟩ := d.b
  exact ⟨by rw [st n1]; exact d.m, ⟨cs, by rw [st n2]; exact a1, a2⟩, ⟨gs, by rw [st n3]; exact b1, b2⟩, d.ma, d.mb, d.ab⟩
theorem toP_ints (h : Hh) (n : Nat) : ∀ gs : List Int, mapO (toP h n) (gs.map D.int) = some (gs.map P.int)
  | [] => rfl
  | g :: r => by
    have e : toP h n (.int g) = some (.int g) := by cases n <;> rfl
    simp [mapO, e, toP_ints h n r]
theorem ne_nil {h : Hh} {a c : Nat} {gs : List Int} (ea : getL h a = some (gs.map D.int)) (ec : getL h c = some []) : cmpop .ne (.ref a) (.ref c) h = some (!gs.isEmpty) := by
  have ta : toP h DP (.ref a) = some (.lst (gs.map P.int)) := by
    show (getL h a).bind _ = _
    rw [ea]
    show (mapO (toP h 39) _).bind _ = _
    rw [toP_ints]
    rfl
  have tc : toP h DP (.ref c) = some (.lst []) := by
    show (getL h c).bind _ = _
    rw [ec]
    rfl
  have : eqD h (.ref a) (.ref c) = some gs.isEmpty := by
    show ((toP h DP (.ref a)).bind fun p => (toP h DP (.ref c)).bind fun q => some (eqv p q)) = _
    rw [ta, tc]
    cases gs <;> simp [eqv, eqvs]
  show (eqD h (.ref a) (.ref c)).bind _ = _
  rw [this]
  rfl
def gr13 : List CS := [(.asg (.nm 3) (.sub (.var 0) (.cst (.str [103, 114, 101, 97, 116])))), (.asg (.nm 4) (.bin .mod (.bi .int1 [(.var 2)]) (.bi .len [(.var 3)]))), (.asg (.nm 5) (.sub (.var 3) (.var 4))), (.ife (.cmp .gt (.var 5) (.cst (.int 0))) [(.asg (.sb (.var 3) (.var 4)) (.bin .fdiv (.var 5) (.var 1))), (.ret (.bin .mod (.bi .int1 [(.var 5)]) (.var 1)))] [])]
def ce13 : List CS := [(.asg (.nm 3) (.sub (.var 0) (.cst (.str [99, 101, 108, 108, 115])))), (.ret (.bin .mod (.bi .int1 [(.call 11 [(.call 11 [(.bin .add (.sub (.var 3) (.bin .mod (.bi .int1 [(.var 2)]) (.cst (.int 64)))) (.bin .mul (.cst (.int 37)) (.bin .fdiv (.var 2) (.cst (.int 64))))), (.var 2)]), (.bin .add (.var 2) (.cst (.int 5)))])]) (.var 1)))]
theorem b13_eq : b13 = (.asg (.nm 2) (.sub (.var 0) (.cst (.str [115, 112, 111, 116])))) :: (.asg (.sb (.var 0) (.cst (.str [115, 112, 111, 116]))) (.bin .add (.var 2) (.cst (.int 1)))) :: (.ife (.cmp .ne (.sub (.var 0) (.cst (.str [103, 114, 101, 97, 116]))) (.lst [])) gr13 []) :: ce13 := rfl
section
variable {l M A B s k : Nat} {h : Hh}
theorem sub_d {v : D} {key : List Nat} {kvs : List (D × D)} (e : h[M]? = some (.dK kvs)) (f : findV keqK (.str key) kvs = some v) : subscr (.ref M) (.str key) h = some v := by
  simp [subscr, e, dget, keyK, f]
theorem sub_l {cs : List Int} {n i : Nat} {v : Int} (e : h[n]? = some (.lst (cs.map D.int))) (hi : cs[i]? = some v) : subscr (.ref n) (.int (i : Nat)) h = some (.int v) := by
  have hlt : i < cs.length := (List.getElem?_eq_some_iff.mp hi).1
  have c : (i : Int) < (cs.length : Nat) := by omega
  simp [subscr, e, ixN, c, hi]
/-- the number drawn from the cells -/
theorem ce13_ok (d : DS M A B (s + 1) h) (hs : s ≤ 100000) (k1 : 1 ≤ k) {s3 s4 s5 : Option D} : ∃ v : Nat, v < k ∧ ∃ σ', lim T .ss (l + 1, ce13, [some (.ref M), some (.int (k : Nat)), some (.int (s : Nat)), s3, s4, s5], h) = some (.rt (.int (v : Nat)), σ', h) := by
  obtain ⟨cs, a1, a2, a3⟩ := d.a
  have hi : s % 64 < cs.length := by omega
  obtain ⟨c, hc⟩ : ∃ c, cs[s % 64]? = some c := ⟨_, List.getElem?_eq_getElem hi⟩
  obtain ⟨c0, c1⟩ := a3 c (List.mem_of_getElem? hc)
  have e0 : subscr (.ref M) (.str [99, 101, 108, 108, 115]) h = some (.ref A) := sub_d d.m rfl
  have e1 : ((s : Nat) : Int) % 64 = ((s % 64 : Nat) : Int) := by omega
  have e2 := sub_l a1 hc
  have i1 : ∀ (i : Int) (g : Hh), bi .int1 [.int i] g = some (.int i, g) := fun _ _ => rfl
  obtain ⟨v1, q1, p1, p2⟩ := c11 (l := l) (c := c + 37 * ((s : Int) / 64)) (n := (s : Int)) h (by omega) (by omega) (by omega) (by omega)
  obtain ⟨v2, q2, p3, p4⟩ := c11 (l := l) (c := v1) (n := (s : Int) + 5) h (by omega) (by omega) (by omega) (by omega)
  have kp : (0 : Int) < (k : Nat) := by omega
  have r1 := Int.emod_nonneg v2 (show (k : Int) ≠ 0 by omega)
  have r2 := Int.emod_lt_of_pos v2 kp
  refine ⟨(v2 % (k : Int)).toNat, by omega, [some (.ref M), some (.int (k : Nat)), some (.int (s : Nat)), some (.ref A), s4, s5], ?_⟩
  have r3 : (((v2 % (k : Int)).toNat : Nat) : Int) = v2 % (k : Int) := Int.toNat_of_nonneg r1
  rw [r3]
  unfold ce13
  simp only [ss1, ss0, s_asg, s_ret, l_sub, l_bin, l_bi, l_call, l_es1, l_es0, l_var, l_cst, List.getElem?_cons_succ, List.getElem?_cons_zero, Option.bind_some, g_nm', List.set_cons_succ, List.set_cons_zero, e0, i1, b_mod (j := 64) (by decide), e1, e2, b_fdiv (j := 64) (by decide) (by decide), b_mulL (i := 37) rfl, b_add, q1, q2, b_mod kp]
theorem c13 (d : DS M A B s h) (hs : s ≤ 100000) (k1 : 1 ≤ k) (k2 : k ≤ 1000) : ∃ (v : Nat) (h' : Hh), docall (lim T) (l + 1) 13 [.ref M, .int (k : Nat)] h = some (.int (v : Nat), h') ∧ v < k ∧ DS M A B (s + 1) h' ∧ Fr M B h h' := by
  obtain ⟨gs, b1, b2⟩ := d.b
  have hM : M < h.length := (List.getElem?_eq_some_iff.mp d.m).1
  have hB : B < h.length := (List.getElem?_eq_some_iff.mp b1).1
  obtain ⟨h1, hh1⟩ : ∃ h1 : Hh, h1 = h.set M (.dK [(kC, .ref A), (kG, .ref B), (kS, .int ((s + 1 : Nat) : Int))]) := ⟨_, rfl⟩
  have d1 : DS M A B (s + 1) h1 := by
    obtain ⟨cs, a1, a2⟩ := d.a
    rw [hh1]
    exact ⟨by rw [List.getElem?_set_self hM], ⟨cs, by rw [List.getElem?_set_ne d.ma]; exact a1, a2⟩, ⟨gs, by rw [List.getElem?_set_ne d.mb]; exact b1, b2⟩, d.ma, d.mb, d.ab⟩
  have f1 : Fr M B h h1 := by
    rw [hh1]
    exact ⟨by simp, fun i _ n1 _ => List.getElem?_set_ne (Ne.symm n1)⟩
  obtain ⟨h2, hh2⟩ : ∃ h2 : Hh, h2 = h1 ++ [O.lst []] := ⟨_, rfl⟩
  have d2 : DS M A B (s + 1) h2 := by rw [hh2]; exact d1.app _
  have f2 : Fr M B h h2 := by rw [hh2]; exact f1.trans (Fr.app _)
  have b1' : h1[B]? = some (.lst (gs.map D.int)) := by rw [hh1, List.getElem?_set_ne d.mb]; exact b1
  have b2' : h2[B]? = some (.lst (gs.map D.int)) := by rw [hh2, List.getElem?_append_left (List.getElem?_eq_some_iff.mp b1').1]; exact b1'
  have e0 : subscr (.ref M) (.str [115, 112, 111, 116]) h = some (.int (s : Nat)) := sub_d d.m rfl
  have e1 : store (.ref M) (.str [115, 112, 111, 116]) (.int ((s + 1 : Nat) : Int)) h = some h1 := by
    have : ([(kC, D.ref A), (kG, .ref B), (kS, .int (s : Nat))] : List (D × D)).length < SL := SL_of (by simp)
    rw [hh1]
    simp only [store, d.m, dput, keyK, this, decide_true, Bool.true_and, if_true]
    rfl
  have e2 : subscr (.ref M) (.str [103, 114, 101, 97, 116]) h1 = some (.ref B) := sub_d d1.m rfl
  have e2' : subscr (.ref M) (.str [103, 114, 101, 97, 116]) h2 = some (.ref B) := sub_d d2.m rfl
  have e3 : cmpop .ne (.ref B) (.ref h1.length) h2 = some (!gs.isEmpty) := ne_nil (by simp [getL, b2']) (by rw [hh2]; simp [getL])
  have hz0 : 0 ≤ SL := Nat.zero_le _
  have e4 : ((s : Nat) : Int) + 1 = ((s + 1 : Nat) : Int) := by omega
  have s0 : start 6 [.ref M, .int (k : Nat)] = [some (.ref M), some (.int (k : Nat)), none, none, none, none] := rfl
  have st1 : lim T .s (l + 1, (.asg (.nm 2) (.sub (.var 0) (.cst (.str [115, 112, 111, 116])))), [some (.ref M), some (.int (k : Nat)), none, none, none, none], h) = some (.nx, [some (.ref M), some (.int (k : Nat)), some (.int (s : Nat)), none, none, none], h) := by
    simp only [s_asg, l_sub, l_var, l_cst, List.getElem?_cons_succ, List.getElem?_cons_zero, Option.bind_some, e0, g_nm', List.set_cons_succ, List.set_cons_zero]
  have st2 : lim T .s (l + 1, (.asg (.sb (.var 0) (.cst (.str [115, 112, 111, 116]))) (.bin .add (.var 2) (.cst (.int 1)))), [some (.ref M), some (.int (k : Nat)), some (.int (s : Nat)), none, none, none], h) = some (.nx, [some (.ref M), some (.int (k : Nat)), some (.int (s : Nat)), none, none, none], h1) := by
    simp only [s_asg, l_bin, l_var, l_cst, List.getElem?_cons_succ, List.getElem?_cons_zero, Option.bind_some, b_add, e4, g_sb', e1]
  have tst : lim T .t (l + 1, (.cmp .ne (.sub (.var 0) (.cst (.str [103, 114, 101, 97, 116]))) (.lst [])), [some (.ref M), some (.int (k : Nat)), some (.int (s : Nat)), none, none, none], h1) = some (!gs.isEmpty, h2) := by
    rw [hh2] at e3
    simp only [t_cmp, l_cmp, l_sub, l_var, l_cst, l_lst, l_es0, List.getElem?_cons_succ, List.getElem?_cons_zero, Option.bind_some, e2, List.length_nil, hz0, if_true, alloc, e3, truth, hh2]
  rw [docall_ref (by simp [norefs, noref]), ca_eq (F := ⟨2, 6, b13⟩) rfl rfl]
  simp only [s0, b13_eq]
  have go : ∀ {σ : Sg} {g : Hh} {s3 s4 s5 : Option D}, lim T .s (l + 1, (.ife (.cmp .ne (.sub (.var 0) (.cst (.str [103, 114, 101, 97, 116]))) (.lst [])) gr13 []), [some (.ref M), some (.int (k : Nat)), some (.int (s : Nat)), none, none, none], h1) = some (.nx, [some (.ref M), some (.int (k : Nat)), some (.int (s : Nat)), s3, s4, s5], h2) →
      ∃ (v : Nat) (h' : Hh), ((lim T .ss (l + 1, (.asg (.nm 2) (.sub (.var 0) (.cst (.str [115, 112, 111, 116])))) :: (.asg (.sb (.var 0) (.cst (.str [115, 112, 111, 116]))) (.bin .add (.var 2) (.cst (.int 1)))) :: (.ife (.cmp .ne (.sub (.var 0) (.cst (.str [103, 114, 101, 97, 116]))) (.lst [])) gr13 []) :: ce13, [some (.ref M), some (.int (k : Nat)), none, none, none, none], h)).bind fun p => (match p.1 with
      | .nx => some (.non, p.2.2)
      | .rt d => some (d, p.2.2)
      | _ => none)) = some (.int (v : Nat), h') ∧ v < k ∧ DS M A B (s + 1) h' ∧ Fr M B h h' := by
    intro σ g s3 s4 s5 q
    obtain ⟨v, hv, σ', hc⟩ := ce13_ok (l := l) d2 hs k1 (s3 := s3) (s4 := s4) (s5 := s5)
    refine ⟨v, h2, ?_, hv, d2, f2⟩
    rw [ss1, st1]
    simp only [Option.bind_some]
    rw [ss1, st2]
    simp only [Option.bind_some]
    rw [ss1, q]
    simp only [Option.bind_some, hc]
  cases hg : gs.isEmpty with
  | true =>
    refine go (σ := []) (g := []) (s3 := none) (s4 := none) (s5 := none) ?_
    rw [s_ife, tst, hg]
    simp only [Option.bind_some, Bool.not_true, Bool.false_eq_true, if_false, ss0]
  | false =>
    have hpos : 0 < gs.length := by
      cases gs with
      | nil => cases hg
      | cons _ _ => simp
    have hi : s % gs.length < gs.length := Nat.mod_lt _ hpos
    obtain ⟨c, hc⟩ : ∃ c, gs[s % gs.length]? = some c := ⟨_, List.getElem?_eq_getElem hi⟩
    have c0 := b2 c (List.mem_of_getElem? hc)
    have i1 : ∀ (i : Int) (g : Hh), bi .int1 [.int i] g = some (.int i, g) := fun _ _ => rfl
    have y1 : bi .len [.ref B] h2 = some (.int (gs.length : Nat), h2) := by simp [bi, b2']
    have y2 : ((s : Nat) : Int) % (gs.length : Nat) = ((s % gs.length : Nat) : Int) := by simp
    have y3 := sub_l b2' hc
    have lp : (0 : Int) < (gs.length : Nat) := by omega
    have kp : (0 : Int) < (k : Nat) := by omega
    have tst2 : lim T .t (l + 1, (.cmp .gt (.var 5) (.cst (.int 0))), [some (.ref M), some (.int (k : Nat)), some (.int (s : Nat)), some (.ref B), some (.int ((s % gs.length : Nat) : Int)), some (.int c)], h2) = some (decide (0 < c), h2) := by
      simp only [t_cmp, l_cmp, l_var, l_cst, List.getElem?_cons_succ, List.getElem?_cons_zero, Option.bind_some, cmpop, truth]
    have pre : ∀ r : List CS, lim T .ss (l + 1, (.asg (.nm 3) (.sub (.var 0) (.cst (.str [103, 114, 101, 97, 116])))) :: (.asg (.nm 4) (.bin .mod (.bi .int1 [(.var 2)]) (.bi .len [(.var 3)]))) :: (.asg (.nm 5) (.sub (.var 3) (.var 4))) :: r, [some (.ref M), some (.int (k : Nat)), some (.int (s : Nat)), none, none, none], h2) = lim T .ss (l + 1, r, [some (.ref M), some (.int (k : Nat)), some (.int (s : Nat)), some (.ref B), some (.int ((s % gs.length : Nat) : Int)), some (.int c)], h2) := by
      intro r
      simp only [ss1 (t := _ :: _), s_asg, l_sub, l_bin, l_bi, l_es1, l_es0, l_var, l_cst, List.getElem?_cons_succ, List.getElem?_cons_zero, Option.bind_some, e2', g_nm', List.set_cons_succ, List.set_cons_zero, i1, y1, b_mod lp, y2]
      rw [ss1]
      simp only [s_asg, l_sub, l_var, List.getElem?_cons_succ, List.getElem?_cons_zero, Option.bind_some, y3, g_nm', List.set_cons_succ, List.set_cons_zero]
    by_cases hcp : 0 < c
    · have r1 := Int.emod_nonneg c (show (k : Int) ≠ 0 by omega)
      have r2 := Int.emod_lt_of_pos c kp
      have r3 : (((c % (k : Int)).toNat : Nat) : Int) = c % (k : Int) := Int.toNat_of_nonneg r1
      have hB2 : B < h2.length := (List.getElem?_eq_some_iff.mp b2').1
      refine ⟨(c % (k : Int)).toNat, h2.set B (.lst ((gs.set (s % gs.length) (c / (k : Int))).map D.int)), ?_, by omega, ?_, ?_⟩
      · have y4 : store (.ref B) (.int ((s % gs.length : Nat) : Int)) (.int (c / (k : Int))) h2 = some (h2.set B (.lst ((gs.set (s % gs.length) (c / (k : Int))).map D.int))) := by
          have cc : ((s % gs.length : Nat) : Int) < (gs.length : Nat) := by omega
          have cd : ixN (gs.map D.int).length ((s % gs.length : Nat) : Int) = some (s % gs.length) := by
            unfold ixN
            rw [if_pos (by omega), List.length_map, if_pos cc, Int.toNat_natCast]
          simp only [store, b2', cd, Option.bind_some, List.map_set]
        have st3 : lim T .s (l + 1, (.ife (.cmp .ne (.sub (.var 0) (.cst (.str [103, 114, 101, 97, 116]))) (.lst [])) gr13 []), [some (.ref M), some (.int (k : Nat)), some (.int (s : Nat)), none, none, none], h1) = some (.rt (.int (c % (k : Int))), [some (.ref M), some (.int (k : Nat)), some (.int (s : Nat)), some (.ref B), some (.int ((s % gs.length : Nat) : Int)), some (.int c)], h2.set B (.lst ((gs.set (s % gs.length) (c / (k : Int))).map D.int))) := by
          rw [s_ife, tst, hg]
          simp only [Option.bind_some, Bool.not_false, if_true]
          unfold gr13
          rw [pre, ss1, s_ife, tst2, decide_eq_true hcp]
          simp only [Option.bind_some, if_true, ss1, ss0, s_asg, s_ret, l_bin, l_bi, l_es1, l_es0, l_var, List.getElem?_cons_succ, List.getElem?_cons_zero, b_fdiv kp (show (k : Int) < 1073741824 by omega), g_sb', y4, i1, b_mod kp]
        rw [r3, ss1, st1]
        simp only [Option.bind_some]
        rw [ss1, st2]
        simp only [Option.bind_some]
        rw [ss1, st3]
        simp only [Option.bind_some]
      · obtain ⟨cs, a1, a2⟩ := d2.a
        refine ⟨by rw [List.getElem?_set_ne (Ne.symm d2.mb)]; exact d2.m, ⟨cs, by rw [List.getElem?_set_ne (Ne.symm d2.ab)]; exact a1, a2⟩, ⟨_, by rw [List.getElem?_set_self hB2], fun g hg' => ?_⟩, d.ma, d.mb, d.ab⟩
        rcases List.mem_or_eq_of_mem_set hg' with q | q
        · exact b2 g q
        · rw [q]
          exact Int.ediv_nonneg c0 (by omega)
      · exact f2.trans ⟨by simp, fun i _ _ n2 => List.getElem?_set_ne (Ne.symm n2)⟩
    · refine go (σ := []) (g := []) (s3 := some (.ref B)) (s4 := some (.int ((s % gs.length : Nat) : Int))) (s5 := some (.int c)) ?_
      rw [s_ife, tst, hg]
      simp only [Option.bind_some, Bool.not_false, if_true]
      unfold gr13
      rw [pre, ss1, s_ife, tst2, decide_eq_false hcp]
      simp only [Option.bind_some, Bool.false_eq_true, if_false, ss0]
end
end K02

/-! KR: the state begun, drawn nets -/
namespace K02
open Ez Ez2
def l1 : List CS := [(.asg (.sb (.var 1) (.bin .mod (.bi .int1 [(.var 2)]) (.cst (.int 64)))) (.bin .mod (.bi .int1 [(.bin .add (.bin .mul (.sub (.var 1) (.bin .mod (.bi .int1 [(.var 2)]) (.cst (.int 64)))) (.cst (.int 69621))) (.var 3))]) (.cst (.int 2147483647))))]
def l2 : List CS := [(.asg (.sb (.var 1) (.var 2)) (.bin .mod (.bi .int1 [(.bin .add (.sub (.var 1) (.var 2)) (.bin .mul (.sub (.var 1) (.bin .sub (.var 2) (.cst (.int 1)))) (.cst (.int 48271))))]) (.cst (.int 2147483647))))]
theorem b12_eq : b12 = [(.asg (.nm 1) (.lc [2] (.bin .add (.cst (.int 29)) (.bin .mul (.cst (.int 3)) (.var 2))) (.nm 2) (.rg1 (.cst (.int 64))) [])), (.for_ (.tu [(.nm 2), (.nm 3)]) (.en (.var 0)) l1), (.for_ (.nm 2) (.rg2 (.cst (.int 1)) (.cst (.int 64))) l2), (.ret (.var 1))] := rfl
/-- the cells -/
def Cel (n : Nat) (h : Hh) : Prop := ∃ cs : List Int, h[n]? = some (.lst (cs.map D.int)) ∧ cs.length = 64 ∧ ∀ c ∈ cs, 0 ≤ c ∧ c < 2147483647
theorem store_l {h : Hh} {n i : Nat} {cs : List Int} {v : Int} (e : h[n]? = some (.lst (cs.map D.int))) (hi : i < cs.length) : store (.ref n) (.int (i : Nat)) (.int v) h = some (h.set n (.lst ((cs.set i v).map D.int))) := by
  have cc : ((i : Nat) : Int) < (cs.length : Nat) := by omega
  have cd : ixN (cs.map D.int).length ((i : Nat) : Int) = some i := by
    unfold ixN
    rw [if_pos (by omega), List.length_map, if_pos cc, Int.toNat_natCast]
  simp only [store, e, cd, Option.bind_some, List.map_set]
theorem Cel.put {h : Hh} {n i : Nat} {cs : List Int} {v : Int} (e : h[n]? = some (.lst (cs.map D.int))) (hl : cs.length = 64) (hc : ∀ c ∈ cs, 0 ≤ c ∧ c < 2147483647) (hv : 0 ≤ v ∧ v < 2147483647) : Cel n (h.set n (.lst ((cs.set i v).map D.int))) := by
  refine ⟨cs.set i v, by rw [List.getElem?_set_self (List.getElem?_eq_some_iff.mp e).1], by simpa using hl, fun c hc' => ?_⟩
  rcases List.mem_or_eq_of_mem_set hc' with q | q
  · exact hc c q
  · rw [q]; exact hv
section
variable {l : Nat} {h : Hh} {ns : List Int}
theorem c12 {n0 : Nat} (hn : getL h n0 = some (ns.map D.int)) : ∃ h', docall (lim T) l 12 [.ref n0] h = some (.ref h.length, h') ∧ Cel h.length h' ∧ h.length < h'.length ∧ Agr h h' := by
  have i1 : ∀ (i : Int) (g : Hh), bi .int1 [.int i] g = some (.int i, g) := fun _ _ => rfl
  have k0 : lim T .ci (l, .rg1 (.cst (.int 64)), [some (.ref n0), none, none, none], h) = some (.it ((List.range 64).map fun (i : Nat) => D.int i), h) := i_rg1n (n := 64) (by simp) (by decide)
  obtain ⟨e, he⟩ := e_lcm (T := T) (l := l) (own := [2]) (elt := (.bin .add (.cst (.int 29)) (.bin .mul (.cst (.int 3)) (.var 2)))) (g := .nm 2) (xs := List.range 64) (fun (i : Nat) => D.int i) (fun (i : Nat) => D.int (29 + 3 * (i : Int))) k0 (by
    intro x _ g _ _
    refine ⟨[some (.ref n0), none, some (.int (x : Nat)), none], [], by simp [wipe], ?_⟩
    simp only [l_bin, l_cst, l_var, List.getElem?_cons_succ, List.getElem?_cons_zero, Option.bind_some, b_mulL (i := 3) rfl, b_add, List.append_nil]) (SL_of (by simp))
  obtain ⟨g0, hg0⟩ : ∃ g0 : Hh, g0 = h ++ O.lst ((List.range 64).map fun (i : Nat) => D.int (29 + 3 * (i : Int))) :: e := ⟨_, rfl⟩
  rw [← hg0] at he
  have a0 : Agr h g0 := by rw [hg0]; exact Agr.of_app
  have len0 : h.length < g0.length := by rw [hg0]; simp
  have cel0 : Cel h.length g0 := by
    refine ⟨(List.range 64).map fun (i : Nat) => 29 + 3 * (i : Int), by rw [hg0]; simp [Function.comp_def], by simp, fun c hc => ?_⟩
    obtain ⟨i, hi, rfl⟩ := List.mem_map.mp hc
    have : i < 64 := by simpa using hi
    omega
  obtain ⟨σ1, h1, e1, ⟨t2, t3, rfl⟩, cel1, len1, a1⟩ := fo_en (T := T) (l := l) (g := .tu [(.nm 2), (.nm 3)]) (b := l1) (ns.map D.int) n0 (fun i σ g => (∃ t2 t3, σ = [some (.ref n0), some (.ref h.length), t2, t3]) ∧ Cel h.length g ∧ h.length < g.length ∧ Agr h g) (by
      rintro i σ g ⟨_, _, _, a⟩
      exact a.getL hn) (by
      rintro i x σ g hx ⟨⟨t2, t3, rfl⟩, ⟨cs, q1, q2, q3⟩, ll, a⟩
      rw [List.getElem?_map] at hx
      obtain ⟨c, hc, rfl⟩ := Option.map_eq_some_iff.mp hx
      have hi : i % 64 < cs.length := by omega
      obtain ⟨v, hv⟩ : ∃ v, cs[i % 64]? = some v := ⟨_, List.getElem?_eq_getElem hi⟩
      have y1 : ((i : Nat) : Int) % 64 = ((i % 64 : Nat) : Int) := by omega
      have y2 := sub_l q1 hv
      have r1 := Int.emod_nonneg (v * 69621 + c) (show (2147483647 : Int) ≠ 0 by decide)
      have r2 := Int.emod_lt_of_pos (v * 69621 + c) (show (0 : Int) < 2147483647 by decide)
      have y3 := store_l (v := (v * 69621 + c) % 2147483647) q1 hi
      refine ⟨([some (.ref n0), some (.ref h.length), some (.int (i : Nat)), some (.int c)], g), [some (.ref n0), some (.ref h.length), some (.int (i : Nat)), some (.int c)], g.set h.length (.lst ((cs.set (i % 64) ((v * 69621 + c) % 2147483647)).map D.int)), by simp, ?_, ⟨_, _, rfl⟩, Cel.put q1 q2 q3 ⟨r1, r2⟩, by simpa using ll, a.set (Nat.le_refl _)⟩
      unfold l1
      simp only [ss1, ss0, s_asg, l_sub, l_bin, l_bi, l_es1, l_es0, l_cst, l_var, List.getElem?_cons_succ, List.getElem?_cons_zero, Option.bind_some, i1, b_mod (j := 64) (by decide), y1, y2, b_mulR (j := 69621) rfl, b_add, b_mod (j := 2147483647) (by decide), g_sb', y3]) (ns.map D.int).length 0 [some (.ref n0), some (.ref h.length), none, none] g0 (by simp) ⟨⟨_, _, rfl⟩, cel0, len0, a0⟩
  obtain ⟨σ2, h2, e2, ⟨u2, u3, rfl⟩, cel2, len2, a2⟩ := fo_ix (T := T) (l := l) (g := .nm 2) (b := l2) (fun (i : Nat) => D.int i) (List.range' 1 (64 - 1)) (fun i σ g => (∃ t2 t3, σ = [some (.ref n0), some (.ref h.length), t2, t3]) ∧ Cel h.length g ∧ h.length < g.length ∧ Agr h g) (by
      rintro i x σ g hx ⟨⟨t2, t3, rfl⟩, ⟨cs, q1, q2, q3⟩, ll, a⟩
      have hm := List.mem_of_getElem? hx
      rw [List.mem_range'_1] at hm
      obtain ⟨y, rfl⟩ : ∃ y, x = y + 1 := ⟨x - 1, by omega⟩
      obtain ⟨v, hv⟩ : ∃ v, cs[y + 1]? = some v := ⟨_, List.getElem?_eq_getElem (by omega)⟩
      obtain ⟨u, hu⟩ : ∃ u, cs[y]? = some u := ⟨_, List.getElem?_eq_getElem (by omega)⟩
      have y1 : ((y + 1 : Nat) : Int) - 1 = ((y : Nat) : Int) := by omega
      have y2 := sub_l q1 hv
      have y4 := sub_l q1 hu
      have r1 := Int.emod_nonneg (v + u * 48271) (show (2147483647 : Int) ≠ 0 by decide)
      have r2 := Int.emod_lt_of_pos (v + u * 48271) (show (0 : Int) < 2147483647 by decide)
      have y3 := store_l (i := y + 1) (v := (v + u * 48271) % 2147483647) q1 (by omega)
      refine ⟨([some (.ref n0), some (.ref h.length), some (.int ((y + 1 : Nat) : Int)), t3], g), [some (.ref n0), some (.ref h.length), some (.int ((y + 1 : Nat) : Int)), t3], g.set h.length (.lst ((cs.set (y + 1) ((v + u * 48271) % 2147483647)).map D.int)), by simp, ?_, ⟨_, _, rfl⟩, Cel.put q1 q2 q3 ⟨r1, r2⟩, by simpa using ll, a.set (Nat.le_refl _)⟩
      unfold l2
      simp only [ss1, ss0, s_asg, l_sub, l_bin, l_bi, l_es1, l_es0, l_cst, l_var, List.getElem?_cons_succ, List.getElem?_cons_zero, Option.bind_some, i1, b_sub, y1, y2, y4, b_mulR (j := 48271) rfl, b_add, b_mod (j := 2147483647) (by decide), g_sb', y3]) [some (.ref n0), some (.ref h.length), t2, t3] h1 ⟨⟨_, _, rfl⟩, cel1, len1, a1⟩
  refine ⟨h2, ?_, cel2, len2, a2⟩
  rw [docall_ref (by simp [norefs, noref]), ca_eq (F := ⟨1, 4, b12⟩) rfl rfl]
  have s0 : start 4 [.ref n0] = [some (.ref n0), none, none, none] := rfl
  have k1 : lim T .ci (l, .en (.var 0), [some (.ref n0), some (.ref h.length), none, none], g0) = some (.en n0 0, g0) := by simp [srcEn, a0.getL hn]
  have k2 : lim T .ci (l, .rg2 (.cst (.int 1)) (.cst (.int 64)), [some (.ref n0), some (.ref h.length), t2, t3], h1) = some (.it ((List.range' 1 (64 - 1)).map fun (i : Nat) => D.int i), h1) := i_rg2n (n := 1) (m := 64) (by simp; rfl) (by simp) (by decide) (by decide)
  simp only [s0, b12_eq, ss1, ss0, s_asg, he, Option.bind_some, g_nm', List.set_cons_succ, List.set_cons_zero, s_for, k1, e1, k2, e2, s_ret, l_var, List.getElem?_cons_succ, List.getElem?_cons_zero]
theorem c14 {n0 : Nat} (hn : getL h n0 = some (ns.map D.int)) (hl : ns.length ≤ 1000) : ∃ M A B h', docall (lim T) (l + 1) 14 [.ref n0] h = some (.ref M, h') ∧ DS M A B 0 h' ∧ h.length ≤ M ∧ h.length ≤ A ∧ h.length ≤ B ∧ h.length ≤ h'.length ∧ Agr h h' := by
  obtain ⟨h1, q1, ⟨cs, b1, b2, b3⟩, len1, a1⟩ := c12 (l := l) hn
  obtain ⟨h2, hh2⟩ : ∃ h2 : Hh, h2 = h1 ++ [O.lst []] ++ [O.dK [(kC, .ref h.length), (kG, .ref h1.length), (kS, .int 0)]] := ⟨_, rfl⟩
  have a2 : Agr h h2 := by rw [hh2, List.append_assoc]; exact a1.app _ (by omega)
  have len2 : h2.length = h1.length + 2 := by rw [hh2]; simp
  have hz0 : 0 ≤ SL := Nat.zero_le _
  have s0 : start 3 [.ref n0] = [some (.ref n0), none, none] := rfl
  have st1 : lim T .s (l + 1, (.asg (.nm 1) (.dsk [[99, 101, 108, 108, 115], [103, 114, 101, 97, 116], [115, 112, 111, 116]] [(.call 12 [(.var 0)]), (.lst []), (.cst (.int 0))])), [some (.ref n0), none, none], h) = some (.nx, [some (.ref n0), some (.ref (h1.length + 1)), none], h2) := by
    have cz : (decide (([[99, 101, 108, 108, 115], [103, 114, 101, 97, 116], [115, 112, 111, 116]] : List (List Nat)).length ≤ 15) && decide (([D.ref h.length, D.ref h1.length, D.int 0] : List D).length = ([[99, 101, 108, 108, 115], [103, 114, 101, 97, 116], [115, 112, 111, 116]] : List (List Nat)).length)) = true := rfl
    simp only [s_asg, l_dsk, l_call, l_lst, l_es1, l_es0, l_var, l_cst, List.getElem?_cons_succ, List.getElem?_cons_zero, Option.bind_some, q1, List.length_nil, hz0, if_true, alloc, cz, g_nm', List.set_cons_succ, List.set_cons_zero, hh2]
    simp [kC, kG, kS]
  have k0 : lim T .ci (l + 1, .ex (.var 0), [some (.ref n0), some (.ref (h1.length + 1)), none], h2) = some (.dy n0 0, h2) := by simp [srcOf, a2.getL hn]
  have pw : ∀ g, binop .pow (.int 10) (.int 18) g = some (.int 1000000000000000000, g) := fun g => rfl
  obtain ⟨e, he⟩ := e_lcmd (T := T) (l := l + 1) (own := [2]) (elt := (.ite (.cmp .ge (.var 2) (.bin .pow (.cst (.int 10)) (.cst (.int 18)))) (.var 2) (.cst (.int 0)))) (g := .nm 2) (xs := ns) D.int (fun c => D.int (if 1000000000000000000 ≤ c then c else 0)) k0 (a2.getL hn) (by
    intro c _ g _ _
    refine ⟨[some (.ref n0), some (.ref (h1.length + 1)), some (.int c)], [], by simp [wipe], ?_⟩
    simp only [l_ite, t_cmp, l_cmp, l_bin, l_var, l_cst, List.getElem?_cons_succ, List.getElem?_cons_zero, Option.bind_some, pw, cmpop, truth, List.append_nil]
    by_cases z : 1000000000000000000 ≤ c
    · simp only [z, decide_true, if_true]
    · simp only [z, decide_false, Bool.false_eq_true, if_false]) (SL_of (by omega))
  obtain ⟨h3, hh3⟩ : ∃ h3 : Hh, h3 = h2 ++ O.lst (ns.map fun c => D.int (if 1000000000000000000 ≤ c then c else 0)) :: e := ⟨_, rfl⟩
  rw [← hh3] at he
  have len3 : h3.length = h2.length + 1 + e.length := by rw [hh3]; simp; omega
  have m2 : h2[h1.length + 1]? = some (.dK [(kC, .ref h.length), (kG, .ref h1.length), (kS, .int 0)]) := by rw [hh2]; simp [List.getElem?_append]
  have m3 : h3[h1.length + 1]? = some (.dK [(kC, .ref h.length), (kG, .ref h1.length), (kS, .int 0)]) := by rw [hh3, List.getElem?_append_left (by omega)]; exact m2
  obtain ⟨h4, hh4⟩ : ∃ h4 : Hh, h4 = h3.set (h1.length + 1) (.dK [(kC, .ref h.length), (kG, .ref h2.length), (kS, .int 0)]) := ⟨_, rfl⟩
  have sto : store (.ref (h1.length + 1)) (.str [103, 114, 101, 97, 116]) (.ref h2.length) h3 = some h4 := by
    have : ([(kC, D.ref h.length), (kG, .ref h1.length), (kS, .int 0)] : List (D × D)).length < SL := SL_of (by simp)
    rw [hh4]
    simp only [store, m3, dput, keyK, this, decide_true, Bool.true_and, if_true]
    rfl
  refine ⟨h1.length + 1, h.length, h2.length, h4, ?_, ⟨?_, ⟨cs, ?_, b2, b3⟩, ⟨ns.map fun c => if 1000000000000000000 ≤ c then c else 0, ?_, fun g hg => ?_⟩, by omega, by omega, by omega⟩, by omega, by omega, by omega, ?_, ?_⟩
  · rw [docall_ref (by simp [norefs, noref]), ca_eq (F := ⟨1, 3, b14⟩) rfl rfl]
    simp only [s0, b14, ss1, ss0, st1, Option.bind_some, s_asg, he, g_sb', l_var, l_cst, List.getElem?_cons_succ, List.getElem?_cons_zero, sto, s_ret]
  · rw [hh4, List.getElem?_set_self (by omega)]
    rfl
  · rw [hh4, List.getElem?_set_ne (by omega), hh3, List.getElem?_append_left (by omega), hh2, List.append_assoc, List.getElem?_append_left len1]
    exact b1
  · rw [hh4, List.getElem?_set_ne (by omega), hh3]
    simp [Function.comp_def]
  · obtain ⟨c, _, rfl⟩ := List.mem_map.mp hg
    split <;> omega
  · rw [hh4, List.length_set]
    omega
  · rw [hh4, hh3]
    exact (a2.app _ (by omega)).set (by omega)
end
end K02

/-! KS: drawn nets -/
namespace K02
open Ez Ez2
theorem map_map_int (w : List Nat) : (w.map fun (n : Nat) => D.int n) = (w.map fun (n : Nat) => (n : Int)).map D.int := by
  rw [List.map_map]
  rfl
theorem erase_map {α β : Type} (f : α → β) : ∀ (L : List α) (i : Nat), (L.map f).eraseIdx i = (L.eraseIdx i).map f
  | [], _ => rfl
  | _ :: _, 0 => rfl
  | a :: r, i + 1 => by simp [erase_map f r i]
theorem erase_perm {α : Type} : ∀ (L : List α) (i : Nat) (h : i < L.length), (L[i] :: L.eraseIdx i).Perm L
  | a :: r, 0, _ => .refl _
  | a :: r, i + 1, h => by
    have := erase_perm r i (by simpa using h)
    exact (List.Perm.swap _ _ _).trans (this.cons a)
theorem DS.lt {M A B s : Nat} {h : Hh} (d : DS M A B s h) : M < h.length ∧ A < h.length ∧ B < h.length := by
  obtain ⟨cs, a1, _⟩ := d.a
  obtain ⟨gs, b1, _⟩ := d.b
  exact ⟨(List.getElem?_eq_some_iff.mp d.m).1, (List.getElem?_eq_some_iff.mp a1).1, (List.getElem?_eq_some_iff.mp b1).1⟩
section
variable {l M A B s : Nat} {h : Hh}
theorem c17 (d : DS M A B s h) {many : Nat} (hm : many ≤ 8) (hs : s ≤ 10000) : ∃ (w : List Nat) (s' : Nat) (h' : Hh), docall (lim T) (l + 2) 17 [.ref M, .int (many : Nat)] h = some (dI w, h') ∧ w.Perm (List.range many) ∧ s' ≤ s + 8 ∧ DS M A B s' h' ∧ Fr M B h h' := by
  obtain ⟨dM, dA, dB⟩ := d.lt
  obtain ⟨h0, hh0⟩ : ∃ h0 : Hh, h0 = h ++ [O.lst ((List.range many).map fun (i : Nat) => D.int i)] := ⟨_, rfl⟩
  have i1 : lim T .e (l + 2, .lrg (.var 1), [some (.ref M), some (.int (many : Nat)), none, none], h) = some (.ref h.length, h0) := by
    rw [hh0]
    exact i_lrgn (by simp) (by omega)
  have hz0 : 0 ≤ SL := Nat.zero_le _
  have st1 : lim T .s (l + 2, (.par [2, 3] [(.lrg (.var 1)), (.tup [])]), [some (.ref M), some (.int (many : Nat)), none, none], h) = some (.nx, [some (.ref M), some (.int (many : Nat)), some (.ref h.length), some (dI [])], h0) := by
    simp only [s_par, l_es1, l_es0, i1, Option.bind_some, l_tup, l_sp0, List.length_nil, hz0, if_true, List.set_cons_succ, List.set_cons_zero]
    rfl
  obtain ⟨σ', h', e, fnd, left, s', rfl, q1, q2, q3, q4, q5, q6⟩ := wh_it (T := T) (l := l + 2) (c := (.cmp .ne (.var 2) (.lst []))) (b := [(.asg (.nm 3) (.bin .add (.var 3) (.tup [(false, (.met .pop1 (.var 2) [(.call 13 [(.var 0), (.bi .len [(.var 2)])])]))])))])
    (fun k σ g => ∃ (fnd left : List Nat) (s' : Nat), σ = [some (.ref M), some (.int (many : Nat)), some (.ref h.length), some (dI fnd)] ∧ g[h.length]? = some (.lst (left.map fun (n : Nat) => D.int n)) ∧ left.length = k ∧ (fnd ++ left).Perm (List.range many) ∧ s' + k = s + many ∧ DS M A B s' g ∧ Fr M B h g) (by
      rintro k σ g ⟨fnd, left, s', rfl, q1, q2, q3, q4, q5, q6⟩
      have hle : k + 1 ≤ many := by
        have := q3.length_eq
        simp at this
        omega
      have hgl : h.length < g.length := (List.getElem?_eq_some_iff.mp q1).1
      have cnd : lim T .t (l + 2, (.cmp .ne (.var 2) (.lst [])), [some (.ref M), some (.int (many : Nat)), some (.ref h.length), some (dI fnd)], g) = some (true, g ++ [.lst []]) := by
        have a : getL (g ++ [O.lst []]) h.length = some ((left.map fun (n : Nat) => (n : Int)).map D.int) := by
          unfold getL
          rw [List.getElem?_append_left hgl, q1, map_map_int]
        have := ne_nil a (c := g.length) (by simp [getL])
        have ne : (left.map fun (n : Nat) => (n : Int)).isEmpty = false := by
          cases left with
          | nil => simp at q2
          | cons _ _ => rfl
        rw [ne] at this
        simp only [t_cmp, l_cmp, l_var, l_lst, l_es0, List.getElem?_cons_succ, List.getElem?_cons_zero, Option.bind_some, List.length_nil, hz0, if_true, alloc, this, truth, Bool.not_false]
      have d1 := q5.app [O.lst []]
      have f1 : Fr M B h (g ++ [O.lst []]) := q6.trans (Fr.app _)
      obtain ⟨v, g2, w1, w2, w3, w4⟩ := c13 (l := l) (k := k + 1) d1 (by omega) (by omega) (by omega)
      have q1' : (g ++ [O.lst []])[h.length]? = some (.lst (left.map fun (n : Nat) => D.int n)) := by rw [List.getElem?_append_left hgl]; exact q1
      have q12 : g2[h.length]? = some (.lst (left.map fun (n : Nat) => D.int n)) := by rw [w4.o h.length (by simp; omega) (by omega) (by omega)]; exact q1'
      have hv : v < left.length := by omega
      refine ⟨g ++ [.lst []], [some (.ref M), some (.int (many : Nat)), some (.ref h.length), some (dI (fnd ++ [left[v]]))], g2.set h.length (.lst ((left.eraseIdx v).map fun (n : Nat) => D.int n)), cnd, ?_, fnd ++ [left[v]], left.eraseIdx v, s' + 1, rfl, ?_, ?_, ?_, by omega, w3.set (by omega) (by omega) (by omega), ?_⟩
      · have y1 : bi .len [.ref h.length] (g ++ [O.lst []]) = some (.int ((k + 1 : Nat) : Int), g ++ [O.lst []]) := by
          simp only [bi, q1', List.length_map, q2]
        have y2 : rcv (g ++ [O.lst []]) (.ref h.length) = some .list := by simp only [rcv, q1']
        have y3 : met .list .pop1 (.ref h.length) [.int (v : Nat)] g2 = some (.int (left[v] : Nat), g2.set h.length (.lst ((left.eraseIdx v).map fun (n : Nat) => D.int n))) := by
          have c1 : (decide ((0 : Int) ≤ (v : Nat)) && decide (((v : Nat) : Int) < 1000000)) = true := by
            rw [decide_eq_true (by omega), decide_eq_true (by omega)]
            rfl
          have c2 : getM g2 h.length = some (left.map fun (n : Nat) => D.int n) := by simp only [getM, q12]
          have c3 : (left.map fun (n : Nat) => D.int n)[v]? = some (.int (left[v] : Nat)) := by simp [hv]
          have c4 : (left.map fun (n : Nat) => D.int n).eraseIdx v = (left.eraseIdx v).map fun (n : Nat) => D.int n := erase_map _ _ _
          simp only [met, metL, c2, Option.bind_some, c1, if_true, Int.toNat_natCast, c3, c4]
        have hl1 : fnd.length + 1 ≤ SL := SL_le (by
          have := q3.length_eq
          simp at this
          omega)
        have h11 : 1 ≤ SL := SL_le (by decide)
        have y4 : binop .add (dI fnd) (.tup [.int (left[v] : Nat)]) (g2.set h.length (.lst ((left.eraseIdx v).map fun (n : Nat) => D.int n))) = some (dI (fnd ++ [left[v]]), g2.set h.length (.lst ((left.eraseIdx v).map fun (n : Nat) => D.int n))) := by
          rw [dI, b_cat (by rw [List.length_map]; exact hl1)]
          simp [dI]
        simp only [ss1, ss0, s_asg, l_bin, l_var, l_tup, l_sp1, l_sp0, l_met, l_es1, l_es0, l_call, l_bi, List.getElem?_cons_succ, List.getElem?_cons_zero, Option.bind_some, y2, y1, w1, y3, List.length_cons, List.length_nil, h11, if_true, y4, g_nm', List.set_cons_succ, List.set_cons_zero]
      · rw [List.getElem?_set_self (by have := w4.len; simp at this; omega)]
      · rw [List.length_eraseIdx_of_lt hv]
        omega
      · refine List.Perm.trans ?_ q3
        rw [List.append_assoc]
        exact (erase_perm left v hv).append_left fnd
      · have z := f1.trans w4
        exact ⟨by rw [List.length_set]; exact z.len, fun i hi n1 n2 => by
          rw [List.getElem?_set_ne (by omega)]
          exact z.o i hi n1 n2⟩) (by
      rintro σ g ⟨fnd, left, s', rfl, q1, q2, q3, q4, q5, q6⟩
      have hgl : h.length < g.length := (List.getElem?_eq_some_iff.mp q1).1
      have : left = [] := List.length_eq_zero_iff.mp q2
      subst this
      refine ⟨g ++ [.lst []], ?_, fnd, [], s', rfl, by rw [List.getElem?_append_left hgl]; exact q1, rfl, q3, q4, q5.app _, q6.trans (Fr.app _)⟩
      have a : getL (g ++ [O.lst []]) h.length = some (([] : List Int).map D.int) := by
        unfold getL
        rw [List.getElem?_append_left hgl, q1]
        rfl
      have := ne_nil a (c := g.length) (by simp [getL])
      simp only [t_cmp, l_cmp, l_var, l_lst, l_es0, List.getElem?_cons_succ, List.getElem?_cons_zero, Option.bind_some, List.length_nil, hz0, if_true, alloc, this, truth]
      rfl) many [some (.ref M), some (.int (many : Nat)), some (.ref h.length), some (dI [])] h0 ⟨[], List.range many, s, rfl, by rw [hh0]; simp, by simp, by simp, rfl, by rw [hh0]; exact d.app _, by rw [hh0]; exact Fr.app _⟩
  have : left = [] := List.length_eq_zero_iff.mp q2
  subst this
  refine ⟨fnd, s', h', ?_, by simpa using q3, by omega, q5, q6⟩
  rw [docall_ref (by simp [norefs, noref]), ca_eq (F := ⟨2, 4, b17⟩) rfl rfl]
  have s0 : start 4 [.ref M, .int (many : Nat)] = [some (.ref M), some (.int (many : Nat)), none, none] := rfl
  simp only [s0, b17, ss1, ss0, st1, Option.bind_some, s_whl, e, s_ret, l_var, List.getElem?_cons_succ, List.getElem?_cons_zero]
end
end K02

/-! KT: wirings, nets -/
namespace K02
open Ez Ez2
def dbl (m x : Nat) : Nat := if 2 * x < m then 2 * x else 2 * x + 1 - m
theorem dbl_perm {b : Nat} (h1 : 1 ≤ b) (h3 : b ≤ 3) : ((List.range (2 ^ b)).map (dbl (2 ^ b))).Perm (List.range (2 ^ b)) := by
  have : b = 1 ∨ b = 2 ∨ b = 3 := by omega
  rcases this with rfl | rfl | rfl <;> decide
section
variable {l M A B s : Nat} {h : Hh}
theorem c18 (d : DS M A B s h) {b m : Nat} (h1 : 1 ≤ b) (h3 : b ≤ 3) (hm : m = 2 ^ b) (hs : s ≤ 9000) : ∃ (w : List Nat) (s' : Nat) (h' : Hh), docall (lim T) (l + 3) 18 [.ref M, .int (m : Nat)] h = some (dI w, h') ∧ w.Perm (List.range m) ∧ s' ≤ s + 9 ∧ DS M A B s' h' ∧ Fr M B h h' := by
  have hp := pow8 h3
  rw [← hm] at hp
  obtain ⟨v, g1, w1, w2, d1, f1⟩ := c13 (l := l + 1) (k := 4) d (by omega) (by omega) (by omega)
  have s0 : start 4 [.ref M, .int (m : Nat)] = [some (.ref M), some (.int (m : Nat)), none, none] := rfl
  have st1 : lim T .s (l + 3, (.asg (.nm 2) (.call 13 [(.var 0), (.cst (.int 4))])), [some (.ref M), some (.int (m : Nat)), none, none], h) = some (.nx, [some (.ref M), some (.int (m : Nat)), some (.int (v : Nat)), none], g1) := by
    have w1' : docall (lim T) (l + 2) 13 [.ref M, .int 4] h = some (.int (v : Nat), g1) := w1
    simp only [s_asg, l_call, l_es1, l_es0, l_var, l_cst, List.getElem?_cons_succ, List.getElem?_cons_zero, Option.bind_some, w1', g_nm', List.set_cons_succ, List.set_cons_zero]
  have tst : lim T .t (l + 3, (.cmp .eq (.var 2) (.cst (.int 0))), [some (.ref M), some (.int (m : Nat)), some (.int (v : Nat)), none], g1) = some (decide (v = 0), g1) := by
    have : (((v : Nat) : Int) == 0) = decide (v = 0) := by
      rw [Bool.eq_iff_iff]
      simp only [beq_iff_eq, decide_eq_true_eq]
      omega
    simp only [t_cmp, l_cmp, l_var, l_cst, List.getElem?_cons_succ, List.getElem?_cons_zero, Option.bind_some, cmpop, eqD, truth, this]
  have tst2 : lim T .t (l + 3, (.cmp .lt (.var 2) (.cst (.int 3))), [some (.ref M), some (.int (m : Nat)), some (.int (v : Nat)), none], g1) = some (decide (v < 3), g1) := by
    have : decide (((v : Nat) : Int) < 3) = decide (v < 3) := by
      rw [Bool.eq_iff_iff]
      simp only [decide_eq_true_eq]
      omega
    simp only [t_cmp, l_cmp, l_var, l_cst, List.getElem?_cons_succ, List.getElem?_cons_zero, Option.bind_some, cmpop, truth, this]
  rw [docall_ref (by simp [norefs, noref]), ca_eq (F := ⟨2, 4, b18⟩) rfl rfl]
  simp only [s0, b18]
  by_cases hv : v = 0
  · have k0 : lim T .ci (l + 3, .rg1 (.var 1), [some (.ref M), some (.int (m : Nat)), some (.int (v : Nat)), none], g1) = some (.it ((List.range m).map fun (i : Nat) => D.int i), g1) := i_rg1n (by simp) (by omega)
    obtain ⟨e, he⟩ := e_lcm (T := T) (l := l + 3) (own := [3]) (elt := (.ite (.cmp .lt (.bin .mul (.cst (.int 2)) (.var 3)) (.var 1)) (.bin .mul (.cst (.int 2)) (.var 3)) (.bin .sub (.bin .add (.bin .mul (.cst (.int 2)) (.var 3)) (.cst (.int 1))) (.var 1)))) (g := .nm 3) (xs := List.range m) (fun (i : Nat) => D.int i) (fun (x : Nat) => D.int (dbl m x : Nat)) k0 (by
      intro x hx g _ _
      have hxm : x < m := by simpa using hx
      refine ⟨[some (.ref M), some (.int (m : Nat)), some (.int (v : Nat)), some (.int (x : Nat))], [], by simp [wipe], ?_⟩
      simp only [l_ite, t_cmp, l_cmp, l_bin, l_var, l_cst, List.getElem?_cons_succ, List.getElem?_cons_zero, Option.bind_some, b_mulL (i := 2) rfl, b_add, b_sub, cmpop, truth, List.append_nil]
      by_cases z : 2 * x < m
      · have z1 : (2 : Int) * (x : Nat) < (m : Nat) := by omega
        have z2 : (2 : Int) * (x : Nat) = ((2 * x : Nat) : Int) := by omega
        simp only [z1, decide_true, if_true, dbl, z]
        rw [z2]
      · have z1 : ¬ (2 : Int) * (x : Nat) < (m : Nat) := by omega
        have z2 : (2 : Int) * (x : Nat) + 1 - (m : Nat) = ((2 * x + 1 - m : Nat) : Int) := by omega
        simp only [z1, decide_false, Bool.false_eq_true, if_false, dbl, z, z2]) (SL_of (by simp; omega))
    refine ⟨(List.range m).map (dbl m), s + 1, g1 ++ O.lst ((List.range m).map fun (x : Nat) => D.int (dbl m x : Nat)) :: e, ?_, by rw [hm]; exact dbl_perm h1 h3, by omega, d1.app _, f1.trans (Fr.app _)⟩
    rw [ss1, st1]
    simp only [Option.bind_some]
    rw [ss1, s_ife, tst, decide_eq_true hv]
    simp only [Option.bind_some, if_true, ss1, ss0, s_ret, l_bi, l_es1, l_es0, he]
    have gl : getL (g1 ++ O.lst ((List.range m).map fun (x : Nat) => D.int (dbl m x : Nat)) :: e) g1.length = some ((List.range m).map fun (x : Nat) => D.int (dbl m x : Nat)) := by simp [getL]
    simp only [bi, seqOf, gl, Option.bind_some, dI, List.map_map]
    rfl
  · have mid : ∀ {r : Option (Fl × Sg × Hh)}, lim T .ss (l + 3, [(.ret (.ite (.cmp .lt (.var 2) (.cst (.int 3))) (.call 17 [(.var 0), (.var 1)]) (.bi .tuple1 [(.lrg (.var 1))])))], [some (.ref M), some (.int (m : Nat)), some (.int (v : Nat)), none], g1) = r →
        lim T .ss (l + 3, [(.asg (.nm 2) (.call 13 [(.var 0), (.cst (.int 4))])), (.ife (.cmp .eq (.var 2) (.cst (.int 0))) [(.ret (.bi .tuple1 [(.lc [3] (.ite (.cmp .lt (.bin .mul (.cst (.int 2)) (.var 3)) (.var 1)) (.bin .mul (.cst (.int 2)) (.var 3)) (.bin .sub (.bin .add (.bin .mul (.cst (.int 2)) (.var 3)) (.cst (.int 1))) (.var 1))) (.nm 3) (.rg1 (.var 1)) [])]))] []), (.ret (.ite (.cmp .lt (.var 2) (.cst (.int 3))) (.call 17 [(.var 0), (.var 1)]) (.bi .tuple1 [(.lrg (.var 1))])))], [some (.ref M), some (.int (m : Nat)), none, none], h) = r := by
      intro r q
      rw [ss1, st1]
      simp only [Option.bind_some]
      rw [ss1, s_ife, tst, decide_eq_false hv]
      simp only [Option.bind_some, Bool.false_eq_true, if_false]
      rw [ss0]
      exact q
    by_cases hv3 : v < 3
    · obtain ⟨w, s', g2, q1, q2, q3, q4, q5⟩ := c17 (l := l) d1 (many := m) hp (by omega)
      refine ⟨w, s', g2, ?_, q2, by omega, q4, f1.trans q5⟩
      have r : lim T .ss (l + 3, [(.ret (.ite (.cmp .lt (.var 2) (.cst (.int 3))) (.call 17 [(.var 0), (.var 1)]) (.bi .tuple1 [(.lrg (.var 1))])))], [some (.ref M), some (.int (m : Nat)), some (.int (v : Nat)), none], g1) = some (.rt (dI w), [some (.ref M), some (.int (m : Nat)), some (.int (v : Nat)), none], g2) := by
        rw [ss1, s_ret, l_ite, tst2, decide_eq_true hv3]
        simp only [Option.bind_some, if_true, l_call, l_es1, l_es0, l_var, List.getElem?_cons_succ, List.getElem?_cons_zero, q1]
      rw [mid r]
      rfl
    · have lr : lim T .e (l + 3, .lrg (.var 1), [some (.ref M), some (.int (m : Nat)), some (.int (v : Nat)), none], g1) = some (.ref g1.length, g1 ++ [.lst ((List.range m).map fun (i : Nat) => D.int i)]) := i_lrgn (by simp) (by omega)
      refine ⟨List.range m, s + 1, g1 ++ [.lst ((List.range m).map fun (i : Nat) => D.int i)], ?_, .refl _, by omega, d1.app _, f1.trans (Fr.app _)⟩
      have r : lim T .ss (l + 3, [(.ret (.ite (.cmp .lt (.var 2) (.cst (.int 3))) (.call 17 [(.var 0), (.var 1)]) (.bi .tuple1 [(.lrg (.var 1))])))], [some (.ref M), some (.int (m : Nat)), some (.int (v : Nat)), none], g1) = some (.rt (dI (List.range m)), [some (.ref M), some (.int (m : Nat)), some (.int (v : Nat)), none], g1 ++ [.lst ((List.range m).map fun (i : Nat) => D.int i)]) := by
        rw [ss1, s_ret, l_ite, tst2, decide_eq_false hv3]
        have gl : getL (g1 ++ [O.lst ((List.range m).map fun (i : Nat) => D.int i)]) g1.length = some ((List.range m).map fun (i : Nat) => D.int i) := by simp [getL]
        simp only [Option.bind_some, Bool.false_eq_true, if_false, l_bi, l_es1, l_es0, lr, bi, seqOf, gl, dI]
      rw [mid r]
      rfl
theorem c19 (d : DS M A B s h) (hs : s ≤ 5000) : ∃ (b : Nat) (ws : List (List Nat)) (s' : Nat) (h' : Hh), docall (lim T) (l + 4) 19 [.ref M, .int 3, .int 4] h = some (dNet b ws, h') ∧ NetOk b ws ∧ s' ≤ s + 30 ∧ DS M A B s' h' ∧ Fr M B h h' := by
  obtain ⟨v, g1, w1, w2, d1, f1⟩ := c13 (l := l + 2) (k := 3) d (by omega) (by omega) (by omega)
  obtain ⟨v2, g2, x1, x2, d2, f2⟩ := c13 (l := l + 2) (k := 4) d1 (by omega) (by omega) (by omega)
  have w1' : docall (lim T) (l + 3) 13 [.ref M, .int 3] h = some (.int (v : Nat), g1) := w1
  have x1' : docall (lim T) (l + 3) 13 [.ref M, .int 4] g1 = some (.int (v2 : Nat), g2) := x1
  obtain ⟨b, hb⟩ : ∃ b, b = 1 + v := ⟨_, rfl⟩
  have e1 : (1 : Int) + (v : Nat) = (b : Nat) := by omega
  obtain ⟨m, hm⟩ : ∃ m, m = 2 ^ b := ⟨_, rfl⟩
  have c16b := c16 (l := l + 3) b (by omega)
  rw [← hm] at c16b
  obtain ⟨dM, dA, dB⟩ := d2.lt
  have k0 : lim T .ci (l + 4, .rg1 (.call 13 [(.var 0), (.var 2)]), [some (.ref M), some (.int 3), some (.int 4), some (.int (b : Nat)), none], g1) = some (.it ((List.range v2).map fun (i : Nat) => D.int i), g2) := by
    refine i_rg1n ?_ (by omega)
    simp only [l_call, l_es1, l_es0, l_var, List.getElem?_cons_succ, List.getElem?_cons_zero, Option.bind_some, x1']
  obtain ⟨acc, h', e2, ws, rfl, q1, q2, s', q3, q4, q5, q6⟩ := lc_ix (T := T) (l := l + 4) (elt := (.call 18 [(.var 0), (.call 16 [(.var 3)])])) (g := .nm 4) (σ := [some (.ref M), some (.int 3), some (.int 4), some (.int (b : Nat)), none]) (fun (i : Nat) => D.int i) g2.length
    (fun i acc g => ∃ ws : List (List Nat), acc = ws.map dI ∧ ws.length = i ∧ (∀ w ∈ ws, w.Perm (List.range m)) ∧ ∃ s', s' ≤ s + 2 + 9 * i ∧ DS M A B s' g ∧ Fr M B g2 g ∧ g[g2.length]? = some (.lst acc)) (List.range v2) 0 [] (g2 ++ [.lst []]) (by
      rintro i x acc g hx ⟨ws, rfl, q1, q2, s', q3, q4, q5, q6⟩
      have hi : i < v2 := by simpa using (List.getElem?_eq_some_iff.mp hx).1
      have q1' : ws.length = i := by omega
      obtain ⟨w, s2, g3, y1, y2, y3, y4, y5⟩ := c18 (l := l) q4 (b := b) (m := m) (by omega) (by omega) hm (by omega)
      have hgl : g2.length < g.length := (List.getElem?_eq_some_iff.mp q6).1
      have q6' : g3[g2.length]? = some (.lst (ws.map dI)) := by rw [y5.o g2.length hgl (by omega) (by omega)]; exact q6
      refine ⟨[some (.ref M), some (.int 3), some (.int 4), some (.int (b : Nat)), some (.int (x : Nat))], dI w, g3, by simp, ?_, by simp only [getM, q6'], SL_of (by rw [List.length_map]; omega), ws ++ [w], by simp, by simp; omega, ?_, s2, by omega, y4.set (by omega) (by omega) (by omega), ?_, ?_⟩
      · simp only [l_call, l_es1, l_es0, l_var, List.getElem?_cons_succ, List.getElem?_cons_zero, Option.bind_some, c16b, y1]
      · intro u hu
        rcases List.mem_append.mp hu with hu | hu
        · exact q2 u hu
        · cases List.mem_singleton.mp hu
          exact y2
      · have z := q5.trans y5
        exact ⟨by rw [List.length_set]; exact z.len, fun j hj n1 n2 => by rw [List.getElem?_set_ne (by omega)]; exact z.o j hj n1 n2⟩
      · rw [List.getElem?_set_self (by have := y5.len; omega)]) ⟨[], rfl, rfl, by simp, s + 2, by omega, d2.app _, Fr.app _, by simp⟩
  rw [List.length_range] at q1 q3
  refine ⟨b, ws, s', h', ?_, ⟨by omega, by omega, by omega, by rw [← hm]; exact q2⟩, by omega, q4, f1.trans (f2.trans q5)⟩
  rw [docall_ref (by simp [norefs, noref]), ca_eq (F := ⟨3, 5, b19⟩) rfl rfl]
  have s0 : start 5 [.ref M, .int 3, .int 4] = [some (.ref M), some (.int 3), some (.int 4), none, none] := rfl
  have wip : wipe [some (.ref M), some (.int 3), some (.int 4), some (.int (b : Nat)), none] [4] = [some (.ref M), some (.int 3), some (.int 4), some (.int (b : Nat)), none] := rfl
  have gl : getL h' g2.length = some (ws.map dI) := by simp only [getL, q6]
  have hz2 : 2 ≤ SL := SL_le (by decide)
  simp only [s0, b19, ss1, ss0, s_asg, l_bin, l_cst, l_call, l_es1, l_es0, l_var, List.getElem?_cons_succ, List.getElem?_cons_zero, Option.bind_some, w1', b_add, e1, g_nm', List.set_cons_succ, List.set_cons_zero, s_ret, l_tup, l_sp1, l_sp0, l_bi, l_lc, k0, wip, e2, bi, seqOf, gl, List.length_cons, List.length_nil, hz2, if_true]
  rfl
end
end K02

/-! KU: the law -/
namespace K02
open Ez Ez2
/-! ### data by itself -/
def pD : Nat → D → P
  | _, .int i => .int i
  | n + 1, .tup xs => .tup (xs.map (pD n))
  | _, _ => .non
theorem toP_pD (h : Hh) : ∀ (n : Nat) (d : D), sm n d = true → toP h n d = some (pD n d)
  | 0, d, e => by
    cases d <;> simp [sm] at e
    rfl
  | n + 1, d, e => by
    cases d with
    | int i => rfl
    | tup xs =>
      have all : ∀ xs : List D, xs.all (sm n) = true → mapO (toP h n) xs = some (xs.map (pD n)) := by
        intro xs
        induction xs with
        | nil => intro _; rfl
        | cons x r ih =>
          intro q
          rw [List.all_cons, Bool.and_eq_true] at q
          simp [mapO, toP_pD h n x q.1, ih q.2]
      have := all xs (by simpa [sm] using e)
      simp [toP, pD, this]
    | _ => simp [sm] at e
theorem repr_sm {h : Hh} {d : D} (e : sm 40 d = true) (hz : sz 40 d ≤ 1000000) : bi .repr1 [d] h = some (.rp (pD 40 d), h) := by
  obtain ⟨p, p1, p2, p3⟩ := sm_ok h 40 d e
  have := toP_pD h 40 d e
  rw [p1] at this
  cases this
  exact repr_ok p1 p2 (by omega)
def bd : List CS := [(.asg (.nm 5) (.call 19 [(.var 1), (.cst (.int 3)), (.cst (.int 4))])), (.par [7, 8] [(.bi .repr1 [(.var 5)]), (.call 16 [(.sub (.var 5) (.cst (.int 0)))])]), (.asg (.nm 6) (.ite (.cmp .lt (.var 8) (.cst (.int 5))) (.lrg (.var 8)) (.lst [(.call 13 [(.var 1), (.var 8)])]))), (.ife (.or_ [(.not_ (.call 22 [(.var 5), (.var 6)])), (.cmp .ne (.bi .repr1 [(.var 5)]) (.var 7))]) [(.ret (.cst (.bl false)))] [])]
section
variable {l M A B s : Nat} {h : Hh}
theorem bd_ok (d : DS M A B s h) (hs : s ≤ 1000) {s0 s2 s3 s4 s5 s6 s7 s8 : Option D} : ∃ t5 t6 t7 t8 s' h', lim T .ss (l + 6, bd, [s0, some (.ref M), s2, s3, s4, s5, s6, s7, s8], h) = some (.nx, [s0, some (.ref M), s2, s3, s4, t5, t6, t7, t8], h') ∧ s' ≤ s + 40 ∧ DS M A B s' h' := by
  obtain ⟨b, ws, s1, h1, q1, N, q2, d1, f1⟩ := c19 (l := l + 1) d (by omega)
  have hp := pow8 N.b3
  have hb3 := N.b3
  obtain ⟨m, hm⟩ : ∃ m, m = 2 ^ b := ⟨_, rfl⟩
  have c16b := c16 (l := l + 5) b (by omega)
  rw [← hm] at c16b
  obtain ⟨n1, n2⟩ := net_small (n := 37) N
  have rp : ∀ g, bi .repr1 [dNet b ws] g = some (.rp (pD 40 (dNet b ws)), g) := fun g => repr_sm n1 (by have : sz 40 (dNet b ws) ≤ 1000 := n2; omega)
  have st1 : lim T .s (l + 6, (.asg (.nm 5) (.call 19 [(.var 1), (.cst (.int 3)), (.cst (.int 4))])), [s0, some (.ref M), s2, s3, s4, s5, s6, s7, s8], h) = some (.nx, [s0, some (.ref M), s2, s3, s4, some (dNet b ws), s6, s7, s8], h1) := by
    simp only [s_asg, l_call, l_es1, l_es0, l_var, l_cst, List.getElem?_cons_succ, List.getElem?_cons_zero, Option.bind_some, q1, g_nm', List.set_cons_succ, List.set_cons_zero]
  have st2 : lim T .s (l + 6, (.par [7, 8] [(.bi .repr1 [(.var 5)]), (.call 16 [(.sub (.var 5) (.cst (.int 0)))])]), [s0, some (.ref M), s2, s3, s4, some (dNet b ws), s6, s7, s8], h1) = some (.nx, [s0, some (.ref M), s2, s3, s4, some (dNet b ws), s6, some (.rp (pD 40 (dNet b ws))), some (.int (m : Nat))], h1) := by
    have y1 : ∀ g, subscr (dNet b ws) (.int 0) g = some (.int (b : Nat)) := fun g => by simp [dNet, subscr, ixN]
    simp only [s_par, l_bi, l_call, l_sub, l_es1, l_es0, l_var, l_cst, List.getElem?_cons_succ, List.getElem?_cons_zero, Option.bind_some, rp, y1, c16b, List.set_cons_succ, List.set_cons_zero]
  have tst : lim T .t (l + 6, (.cmp .lt (.var 8) (.cst (.int 5))), [s0, some (.ref M), s2, s3, s4, some (dNet b ws), s6, some (.rp (pD 40 (dNet b ws))), some (.int (m : Nat))], h1) = some (decide (m < 5), h1) := by
    have : decide (((m : Nat) : Int) < 5) = decide (m < 5) := by
      rw [Bool.eq_iff_iff]
      simp only [decide_eq_true_eq]
      omega
    simp only [t_cmp, l_cmp, l_var, l_cst, List.getElem?_cons_succ, List.getElem?_cons_zero, Option.bind_some, cmpop, truth, this]
  obtain ⟨n6, spots, g2, s'', st3, hgs, hsp, hs2, d2⟩ : ∃ (n6 : Nat) (spots : List Nat) (g2 : Hh) (s'' : Nat), lim T .s (l + 6, (.asg (.nm 6) (.ite (.cmp .lt (.var 8) (.cst (.int 5))) (.lrg (.var 8)) (.lst [(.call 13 [(.var 1), (.var 8)])]))), [s0, some (.ref M), s2, s3, s4, some (dNet b ws), s6, some (.rp (pD 40 (dNet b ws))), some (.int (m : Nat))], h1) = some (.nx, [s0, some (.ref M), s2, s3, s4, some (dNet b ws), some (.ref n6), some (.rp (pD 40 (dNet b ws))), some (.int (m : Nat))], g2) ∧
      getL g2 n6 = some (spots.map fun (n : Nat) => D.int n) ∧ (∀ x ∈ spots, x < 2 ^ b) ∧ s'' ≤ s + 40 ∧ DS M A B s'' g2 := by
    by_cases z : m < 5
    · have lr : lim T .e (l + 6, .lrg (.var 8), [s0, some (.ref M), s2, s3, s4, some (dNet b ws), s6, some (.rp (pD 40 (dNet b ws))), some (.int (m : Nat))], h1) = some (.ref h1.length, h1 ++ [.lst ((List.range m).map fun (i : Nat) => D.int i)]) := i_lrgn (by simp) (by omega)
      refine ⟨h1.length, List.range m, h1 ++ [.lst ((List.range m).map fun (i : Nat) => D.int i)], s1, ?_, by simp [getL], fun x hx => by rw [← hm]; simpa using hx, by omega, d1.app _⟩
      rw [s_asg, l_ite, tst, decide_eq_true z]
      simp only [Option.bind_some, if_true, lr, g_nm', List.set_cons_succ, List.set_cons_zero]
    · obtain ⟨v, g3, y1, y2, y3, y4⟩ := c13 (l := l + 4) (k := m) d1 (by omega) (by omega) (by omega)
      have h11 : 1 ≤ SL := SL_le (by decide)
      refine ⟨g3.length, [v], g3 ++ [.lst [.int (v : Nat)]], s1 + 1, ?_, by simp [getL], fun x hx => by rw [← hm]; simp at hx; omega, by omega, y3.app _⟩
      rw [s_asg, l_ite, tst, decide_eq_false z]
      simp only [Option.bind_some, Bool.false_eq_true, if_false, l_lst, l_call, l_es1, l_es0, l_var, List.getElem?_cons_succ, List.getElem?_cons_zero, y1, List.length_cons, List.length_nil, h11, if_true, alloc, g_nm', List.set_cons_succ, List.set_cons_zero]
  obtain ⟨e, he⟩ := c22 (l := l) N hgs hsp
  refine ⟨some (dNet b ws), some (.ref n6), some (.rp (pD 40 (dNet b ws))), some (.int (m : Nat)), s'', g2 ++ e, ?_, hs2, d2.app e⟩
  have st4 : lim T .s (l + 6, (.ife (.or_ [(.not_ (.call 22 [(.var 5), (.var 6)])), (.cmp .ne (.bi .repr1 [(.var 5)]) (.var 7))]) [(.ret (.cst (.bl false)))] []), [s0, some (.ref M), s2, s3, s4, some (dNet b ws), some (.ref n6), some (.rp (pD 40 (dNet b ws))), some (.int (m : Nat))], g2) = some (.nx, [s0, some (.ref M), s2, s3, s4, some (dNet b ws), some (.ref n6), some (.rp (pD 40 (dNet b ws))), some (.int (m : Nat))], g2 ++ e) := by
    simp only [s_ife, t_or2, t_or1, t_not, t_call, l_call, l_es1, l_es0, l_var, List.getElem?_cons_succ, List.getElem?_cons_zero, Option.bind_some, he, truth, Bool.not_true, Bool.false_eq_true, if_false, t_cmp, l_cmp, l_bi, rp, cmpop, eqD, same_rfl, if_true, ss0]
  unfold bd
  simp only [ss1, ss0, st1, st2, st3, st4, Option.bind_some]
end
/-! ### what is told by hand -/
def t1 : D := .tup [.tup [.int 0, .int 1]]
def t2 : D := .tup [.tup [.int 0, .int 1, .int 3]]
def t3 : D := .tup []
def t4 : D := .tup [.tup [.int 0, .int 0, .int 0], .tup [.int 0, .int 1, .int 0]]
def t5 : D := .tup [.int 2, .tup [.tup [.int 0, .int 2, .int 1, .int 3], .tup [.int 3, .int 0, .int 1, .int 2]]]
section
variable {l : Nat}
theorem netOk {b : Nat} {ws : List (List Nat)} (h1 : 1 ≤ b) (h3 : b ≤ 3) (hw : ws.length ≤ 3) (hp : ∀ w ∈ ws, w.Perm (List.range (2 ^ b))) : NetOk b ws := ⟨h1, h3, hw, hp⟩
theorem k1 (g : Hh) : docall (lim T) (l + 5) 10 [.tup [.int 1, .tup []], .int 0, .int 1] g = some (t1, g) :=
  c10 (l := l + 1) (b := 1) (ws := []) (one := 0) (other := 1) (netOk (by decide) (by decide) (by decide) (by decide)) (by decide) (by decide) g
theorem k2 (g : Hh) : docall (lim T) (l + 5) 10 [.tup [.int 2, .tup [.tup [.int 0, .int 2, .int 1, .int 3]]], .int 0, .int 3] g = some (t2, g) :=
  c10 (l := l + 1) (b := 2) (ws := [[0, 2, 1, 3]]) (one := 0) (other := 3) (netOk (by decide) (by decide) (by decide) (by decide)) (by decide) (by decide) g
theorem k3 (g : Hh) : docall (lim T) (l + 5) 10 [.tup [.int 2, .tup [.tup [.int 0, .int 1, .int 2, .int 3]]], .int 0, .int 3] g = some (t3, g) :=
  c10 (l := l + 1) (b := 2) (ws := [[0, 1, 2, 3]]) (one := 0) (other := 3) (netOk (by decide) (by decide) (by decide) (by decide)) (by decide) (by decide) g
theorem k4 (g : Hh) : docall (lim T) (l + 5) 10 [.tup [.int 1, .tup [.tup [.int 0, .int 1]]], .int 0, .int 0] g = some (t4, g) :=
  c10 (l := l + 1) (b := 1) (ws := [[0, 1]]) (one := 0) (other := 0) (netOk (by decide) (by decide) (by decide) (by decide)) (by decide) (by decide) g
theorem k5 (g : Hh) : docall (lim T) (l + 5) 7 [.tup [.int 2, .tup [.tup [.int 1, .int 2, .int 3, .int 0], .tup [.int 0, .int 2, .int 1, .int 3]]]] g = some (t5, g) :=
  c7 (l + 1) (b := 2) (ws := [[1, 2, 3, 0], [0, 2, 1, 3]]) g (netOk (by decide) (by decide) (by decide) (by decide))
def xs : List D := [t1, t2, t3, t4, t5]
theorem law_ok (ns : List Int) (hn : ns.length ≤ 63) : ∃ g, lim T .ca (l + 6, 23, [.ref 0], [.frz (ns.map D.int)]) = some (.bl true, g) := by
  obtain ⟨h, hh⟩ : ∃ h : Hh, h = [O.frz (ns.map D.int)] := ⟨_, rfl⟩
  have hg : getL h 0 = some (ns.map D.int) := by rw [hh]; rfl
  obtain ⟨M, A, B, h1, q1, d1, lM, lA, lB, ll, a1⟩ := c14 (l := l + 4) hg (by omega)
  obtain ⟨n, hnn⟩ : ∃ n : Nat, n = 1 + min ns.length 2 := ⟨_, rfl⟩
  obtain ⟨σ', h', e, ⟨u2, u5, u6, u7, u8, rfl⟩, _⟩ := fo_rg (T := T) (l := l + 6) (g := .nm 2) (b := bd) (n := n)
    (fun i σ g => (∃ u2 u5 u6 u7 u8, σ = [some (.ref 0), some (.ref M), u2, none, none, u5, u6, u7, u8]) ∧ ∃ s, s ≤ 40 * i ∧ DS M A B s g) (by
      rintro i σ g hi ⟨⟨u2, u5, u6, u7, u8, rfl⟩, s, hs, d⟩
      obtain ⟨v5, v6, v7, v8, s', g', e, hs', d'⟩ := bd_ok (l := l) d (by omega) (s0 := some (.ref 0)) (s2 := some (.int (i : Nat))) (s3 := none) (s4 := none) (s5 := u5) (s6 := u6) (s7 := u7) (s8 := u8)
      exact ⟨([some (.ref 0), some (.ref M), some (.int (i : Nat)), none, none, u5, u6, u7, u8], g), _, g', by simp, e, ⟨_, _, _, _, _, rfl⟩, s', by omega, d'⟩) [some (.ref 0), some (.ref M), none, none, none, none, none, none, none] h1 ⟨⟨_, _, _, _, _, rfl⟩, 0, by omega, d1⟩
  have hz0 : 0 ≤ SL := Nat.zero_le _
  have hz1 : 1 ≤ SL := SL_le (by decide)
  have hz2 : 2 ≤ SL := SL_le (by decide)
  have hz3 : 3 ≤ SL := SL_le (by decide)
  have hz4 : 4 ≤ SL := SL_le (by decide)
  have hz5 : 5 ≤ SL := SL_le (by decide)
  have s0 : start 9 [.ref 0] = [some (.ref 0), none, none, none, none, none, none, none, none] := rfl
  have st1 : lim T .s (l + 6, (.asg (.nm 1) (.call 14 [(.var 0)])), [some (.ref 0), none, none, none, none, none, none, none, none], h) = some (.nx, [some (.ref 0), some (.ref M), none, none, none, none, none, none, none], h1) := by
    simp only [s_asg, l_call, l_es1, l_es0, l_var, List.getElem?_cons_succ, List.getElem?_cons_zero, Option.bind_some, q1, g_nm', List.set_cons_succ, List.set_cons_zero]
  have ci : lim T .ci (l + 6, (.rg1 (.bin .add (.cst (.int 1)) (.bi .min2 [(.bi .len [(.var 0)]), (.cst (.int 2))]))), [some (.ref 0), some (.ref M), none, none, none, none, none, none, none], h1) = some (.it ((List.range n).map fun (i : Nat) => D.int i), h1) := by
    refine i_rg1n ?_ (by omega)
    have y0 : h1[0]? = some (.frz (ns.map D.int)) := by rw [a1 0 (by rw [hh]; simp), hh]; rfl
    have y1 : bi .len [.ref 0] h1 = some (.int (ns.length : Nat), h1) := by simp only [bi, y0, List.length_map]
    have y2 : bi .min2 [.int (ns.length : Nat), .int 2] h1 = some (.int (if (2 : Int) < (ns.length : Nat) then 2 else (ns.length : Nat)), h1) := rfl
    have y3 : (1 : Int) + (if (2 : Int) < (ns.length : Int) then (2 : Int) else (ns.length : Int)) = ((n : Nat) : Int) := by
      split <;> omega
    simp only [l_bin, l_bi, l_es1, l_es0, l_cst, l_var, List.getElem?_cons_succ, List.getElem?_cons_zero, Option.bind_some, y1, y2, b_add, y3]
  have rest : ∃ g, lim T .ss (l + 6, [(.asg (.nm 3) (.lst [(.call 10 [(.tup [(false, (.cst (.int 1))), (false, (.tup []))]), (.cst (.int 0)), (.cst (.int 1))]), (.call 10 [(.tup [(false, (.cst (.int 2))), (false, (.tup [(false, (.tup [(false, (.cst (.int 0))), (false, (.cst (.int 2))), (false, (.cst (.int 1))), (false, (.cst (.int 3)))]))]))]), (.cst (.int 0)), (.cst (.int 3))]), (.call 10 [(.tup [(false, (.cst (.int 2))), (false, (.tup [(false, (.tup [(false, (.cst (.int 0))), (false, (.cst (.int 1))), (false, (.cst (.int 2))), (false, (.cst (.int 3)))]))]))]), (.cst (.int 0)), (.cst (.int 3))])])), (.asg (.nm 3) (.bin .add (.var 3) (.lst [(.call 10 [(.tup [(false, (.cst (.int 1))), (false, (.tup [(false, (.tup [(false, (.cst (.int 0))), (false, (.cst (.int 1)))]))]))]), (.cst (.int 0)), (.cst (.int 0))]), (.call 7 [(.tup [(false, (.cst (.int 2))), (false, (.tup [(false, (.tup [(false, (.cst (.int 1))), (false, (.cst (.int 2))), (false, (.cst (.int 3))), (false, (.cst (.int 0)))])), (false, (.tup [(false, (.cst (.int 0))), (false, (.cst (.int 2))), (false, (.cst (.int 1))), (false, (.cst (.int 3)))]))]))])])]))), (.asg (.nm 4) (.lst [(.tup [(false, (.tup [(false, (.cst (.int 0))), (false, (.cst (.int 1)))]))]), (.tup [(false, (.tup [(false, (.cst (.int 0))), (false, (.cst (.int 1))), (false, (.cst (.int 3)))]))]), (.tup []), (.tup [(false, (.tup [(false, (.cst (.int 0))), (false, (.cst (.int 0))), (false, (.cst (.int 0)))])), (false, (.tup [(false, (.cst (.int 0))), (false, (.cst (.int 1))), (false, (.cst (.int 0)))]))]), (.tup [(false, (.cst (.int 2))), (false, (.tup [(false, (.tup [(false, (.cst (.int 0))), (false, (.cst (.int 2))), (false, (.cst (.int 1))), (false, (.cst (.int 3)))])), (false, (.tup [(false, (.cst (.int 3))), (false, (.cst (.int 0))), (false, (.cst (.int 1))), (false, (.cst (.int 2)))]))]))])])), (.ret (.call 15 [(.var 3), (.var 4)]))],
      [some (.ref 0), some (.ref M), u2, none, none, u5, u6, u7, u8], h') = some (.rt (.bl true), g) := by
    obtain ⟨g1, hg1⟩ : ∃ g1 : Hh, g1 = h' ++ [O.lst [t1, t2, t3]] := ⟨_, rfl⟩
    obtain ⟨g2, hg2⟩ : ∃ g2 : Hh, g2 = g1 ++ [O.lst [t4, t5]] := ⟨_, rfl⟩
    obtain ⟨g3, hg3⟩ : ∃ g3 : Hh, g3 = g2 ++ [O.lst xs] := ⟨_, rfl⟩
    obtain ⟨g4, hg4⟩ : ∃ g4 : Hh, g4 = g3 ++ [O.lst xs] := ⟨_, rfl⟩
    have p1 : getM g2 h'.length = some [t1, t2, t3] := by rw [hg2, hg1]; simp [getM, List.getElem?_append]
    have p2 : getM g2 g1.length = some [t4, t5] := by rw [hg2]; simp [getM]
    have p3 : getL g4 g2.length = some xs := by
      have a : Agr g3 g4 := by rw [hg4]; exact Agr.of_app
      refine a.getL ?_
      rw [hg3]
      simp [getL]
    have p4 : getL g4 g3.length = some xs := by rw [hg4]; simp [getL]
    have bn : binop .add (.ref h'.length) (.ref g1.length) g2 = some (.ref g2.length, g3) := by
      show ((getM g2 h'.length).bind fun xs => (getM g2 g1.length).bind fun ys => if xs.length + ys.length ≤ SL then alloc g2 (.lst (xs ++ ys)) else none) = _
      rw [p1, p2]
      simp only [Option.bind_some, List.length_cons, List.length_nil, hz5, if_true, alloc, hg3]
      rfl
    have like : docall (lim T) (l + 5) 15 [.ref g2.length, .ref g3.length] g4 = some (.bl true, g4) := c15 p3 p4 rfl (by decide)
    refine ⟨([some (.ref 0), some (.ref M), u2, some (.ref g2.length), some (.ref g3.length), u5, u6, u7, u8], g4), ?_⟩
    have sA : lim T .e (l + 6, (.lst [(.call 10 [(.tup [(false, (.cst (.int 1))), (false, (.tup []))]), (.cst (.int 0)), (.cst (.int 1))]), (.call 10 [(.tup [(false, (.cst (.int 2))), (false, (.tup [(false, (.tup [(false, (.cst (.int 0))), (false, (.cst (.int 2))), (false, (.cst (.int 1))), (false, (.cst (.int 3)))]))]))]), (.cst (.int 0)), (.cst (.int 3))]), (.call 10 [(.tup [(false, (.cst (.int 2))), (false, (.tup [(false, (.tup [(false, (.cst (.int 0))), (false, (.cst (.int 1))), (false, (.cst (.int 2))), (false, (.cst (.int 3)))]))]))]), (.cst (.int 0)), (.cst (.int 3))])]), [some (.ref 0), some (.ref M), u2, none, none, u5, u6, u7, u8], h') = some (.ref h'.length, g1) := by
      simp only [l_lst, l_call, l_es1, l_es0, l_tup, l_sp1, l_sp0, l_cst, Option.bind_some, List.length_cons, List.length_nil, hz0, hz1, hz2, hz3, hz4, if_true, k1, k2, k3, alloc, hg1]
    have sB : lim T .e (l + 6, (.lst [(.call 10 [(.tup [(false, (.cst (.int 1))), (false, (.tup [(false, (.tup [(false, (.cst (.int 0))), (false, (.cst (.int 1)))]))]))]), (.cst (.int 0)), (.cst (.int 0))]), (.call 7 [(.tup [(false, (.cst (.int 2))), (false, (.tup [(false, (.tup [(false, (.cst (.int 1))), (false, (.cst (.int 2))), (false, (.cst (.int 3))), (false, (.cst (.int 0)))])), (false, (.tup [(false, (.cst (.int 0))), (false, (.cst (.int 2))), (false, (.cst (.int 1))), (false, (.cst (.int 3)))]))]))])])]), [some (.ref 0), some (.ref M), u2, some (.ref h'.length), none, u5, u6, u7, u8], g1) = some (.ref g1.length, g2) := by
      simp only [l_lst, l_call, l_es1, l_es0, l_tup, l_sp1, l_sp0, l_cst, Option.bind_some, List.length_cons, List.length_nil, hz0, hz1, hz2, hz3, hz4, if_true, k4, k5, alloc, hg2]
    have sC : lim T .e (l + 6, (.lst [(.tup [(false, (.tup [(false, (.cst (.int 0))), (false, (.cst (.int 1)))]))]), (.tup [(false, (.tup [(false, (.cst (.int 0))), (false, (.cst (.int 1))), (false, (.cst (.int 3)))]))]), (.tup []), (.tup [(false, (.tup [(false, (.cst (.int 0))), (false, (.cst (.int 0))), (false, (.cst (.int 0)))])), (false, (.tup [(false, (.cst (.int 0))), (false, (.cst (.int 1))), (false, (.cst (.int 0)))]))]), (.tup [(false, (.cst (.int 2))), (false, (.tup [(false, (.tup [(false, (.cst (.int 0))), (false, (.cst (.int 2))), (false, (.cst (.int 1))), (false, (.cst (.int 3)))])), (false, (.tup [(false, (.cst (.int 3))), (false, (.cst (.int 0))), (false, (.cst (.int 1))), (false, (.cst (.int 2)))]))]))])]), [some (.ref 0), some (.ref M), u2, some (.ref g2.length), none, u5, u6, u7, u8], g3) = some (.ref g3.length, g4) := by
      simp only [l_lst, l_es1, l_es0, l_tup, l_sp1, l_sp0, l_cst, Option.bind_some, List.length_cons, List.length_nil, hz0, hz1, hz2, hz3, hz4, hz5, if_true, alloc, hg4]
      rfl
    simp only [ss1, ss0, s_asg, sA, Option.bind_some, g_nm', List.set_cons_succ, List.set_cons_zero, l_bin, l_var, List.getElem?_cons_succ, List.getElem?_cons_zero, sB, bn, sC, s_ret, l_call, l_es1, l_es0, like]
  obtain ⟨g, hr⟩ := rest
  refine ⟨g.2, ?_⟩
  rw [← hh, ca_eq (F := ⟨1, 9, b23⟩) rfl rfl]
  simp only [s0]
  have hb : b23 = (.asg (.nm 1) (.call 14 [(.var 0)])) :: (.for_ (.nm 2) (.rg1 (.bin .add (.cst (.int 1)) (.bi .min2 [(.bi .len [(.var 0)]), (.cst (.int 2))]))) bd) :: _ := rfl
  rw [hb, ss1, st1]
  simp only [Option.bind_some]
  rw [ss1, s_for, ci]
  simp only [Option.bind_some, e]
  rw [hr]
  rfl
end
end K02

/-! E2a: how values and heaps of the evaluator stand for those of the layer -/
namespace Ez
open PySem PySem.Spec PyProof.Rows L2
abbrev Fg := PySem.W.Frag
/-! ### data -/
mutual
def toPy : P → PyData
  | .non => .none
  | .bl b => .bool b
  | .int i => .int i
  | .str s => .str ⟨s.toArray⟩
  | .tup xs => .tuple (toPys xs)
  | .lst xs => .list (toPys xs)
def toPys : List P → List PyData
  | [] => []
  | x :: xs => toPy x :: toPys xs
end
/-! ### values -/
/-- a tuple as it was made: known to the object, without a dict of its own -/
def Tp (H : Hp) (a : Addr) (vs : List V) : Prop := ∃ ob : Obj, H a = some (.frz ob (.tup vs)) ∧ ob.dict = none
/-- tuples stay -/
def Kp (H H' : Hp) : Prop := (∀ (a : Addr) (vs : List V), Tp H a vs → Tp H' a vs) ∧ ∀ (a : Addr) (vs : List V), H a = some (.tup vs) → H' a = some (.tup vs)
theorem Tp.sq {K : Fg} {H : Hp} {a : Addr} {vs : List V} (h : Tp H a vs) : SqT K H a vs := let ⟨ob, e, _⟩ := h; .inl (.inr ⟨ob, e⟩)
mutual
def Rl (K : Fg) (m : List Addr) (H : Hp) : D → V → Prop
  | .non, v => v = .non
  | .bl b, v => v = .bl b
  | .int i, v => v = .int i
  | .str s, v => v = .str ⟨s.toArray⟩
  | .tup xs, v => ∃ a vs, v = .ref a ∧ Tp H a vs ∧ Rls K m H xs vs
  | .ref n, v => ∃ a, v = .ref a ∧ m[n]? = some a
  | .rp p, v => v = .str (PyData.shown (toPy p))
  | .ptp xs, v => ∃ a vs, v = .ref a ∧ H a = some (.tup vs) ∧ Rls K m H xs vs
def Rls (K : Fg) (m : List Addr) (H : Hp) : List D → List V → Prop
  | [], vs => vs = []
  | x :: xs, vs => ∃ v r, vs = v :: r ∧ Rl K m H x v ∧ Rls K m H xs r
end
section
variable {K : Fg} {m m' : List Addr} {H H' : Hp}
mutual
theorem Rl.mono (hm : ∀ (n : Nat) (a : Addr), m[n]? = some a → m'[n]? = some a) (ht : Kp H H') : ∀ (d : D) (v : V), Rl K m H d v → Rl K m' H' d v
  | .non, _, h => h
  | .bl _, _, h => h
  | .int _, _, h => h
  | .str _, _, h => h
  | .tup xs, _, h => by
    simp only [Rl] at h ⊢
    obtain ⟨a, vs, e, q, r⟩ := h
    exact ⟨a, vs, e, ht.1 a vs q, Rls.mono hm ht xs vs r⟩
  | .ref n, _, h => by
    simp only [Rl] at h ⊢
    obtain ⟨a, e, q⟩ := h
    exact ⟨a, e, hm n a q⟩
  | .rp _, _, h => h
  | .ptp xs, _, h => by
    simp only [Rl] at h ⊢
    obtain ⟨a, vs, e, q, r⟩ := h
    exact ⟨a, vs, e, ht.2 a vs q, Rls.mono hm ht xs vs r⟩
theorem Rls.mono (hm : ∀ (n : Nat) (a : Addr), m[n]? = some a → m'[n]? = some a) (ht : Kp H H') : ∀ (ds : List D) (vs : List V), Rls K m H ds vs → Rls K m' H' ds vs
  | [], _, h => h
  | d :: ds, _, h => by
    simp only [Rls] at h ⊢
    obtain ⟨v, r, e, q, t⟩ := h
    exact ⟨v, r, e, Rl.mono hm ht d v q, Rls.mono hm ht ds r t⟩
end
theorem Rls.length : ∀ {ds : List D} {vs : List V}, Rls K m H ds vs → vs.length = ds.length
  | [], _, h => by simp only [Rls] at h; subst h; rfl
  | d :: ds, _, h => by
    simp only [Rls] at h
    obtain ⟨v, r, e, _, t⟩ := h
    subst e
    simp [Rls.length t]
theorem Rls.get : ∀ {ds : List D} {vs : List V} {i : Nat} {d : D}, Rls K m H ds vs → ds[i]? = some d → ∃ v, vs[i]? = some v ∧ Rl K m H d v
  | [], _, _, _, _, e => by simp at e
  | x :: ds, _, 0, d, h, e => by
    simp only [Rls] at h
    obtain ⟨v, r, e1, q, t⟩ := h
    subst e1
    simp at e
    subst e
    exact ⟨v, rfl, q⟩
  | x :: ds, _, i + 1, d, h, e => by
    simp only [Rls] at h
    obtain ⟨v, r, e1, q, t⟩ := h
    subst e1
    obtain ⟨w, e2, q2⟩ := Rls.get (i := i) t (by simpa using e)
    exact ⟨w, by simpa using e2, q2⟩
theorem Rls.append : ∀ {xs ys : List D} {vs ws : List V}, Rls K m H xs vs → Rls K m H ys ws → Rls K m H (xs ++ ys) (vs ++ ws)
  | [], _, _, _, h, g => by simp only [Rls] at h; subst h; exact g
  | x :: xs, _, _, _, h, g => by
    simp only [Rls] at h
    obtain ⟨v, r, e, q, t⟩ := h
    subst e
    exact ⟨v, _, rfl, q, Rls.append t g⟩
theorem Rls.one {d : D} {v : V} (h : Rl K m H d v) : Rls K m H [d] [v] := ⟨v, [], rfl, h, rfl⟩
theorem Rls.cons {d : D} {v : V} {ds : List D} {vs : List V} (h : Rl K m H d v) (t : Rls K m H ds vs) : Rls K m H (d :: ds) (v :: vs) := ⟨v, vs, rfl, h, t⟩
theorem Rls.set : ∀ {ds : List D} {vs : List V} (i : Nat) {d : D} {v : V}, Rls K m H ds vs → Rl K m H d v → Rls K m H (ds.set i d) (vs.set i v)
  | [], _, _, _, _, h, _ => by simp only [Rls] at h; subst h; exact rfl
  | x :: ds, _, 0, _, _, h, g => by
    simp only [Rls] at h
    obtain ⟨w, r, e, q, t⟩ := h
    subst e
    exact ⟨_, _, rfl, g, t⟩
  | x :: ds, _, i + 1, _, _, h, g => by
    simp only [Rls] at h
    obtain ⟨w, r, e, q, t⟩ := h
    subst e
    exact ⟨_, _, rfl, q, Rls.set i t g⟩
theorem Rls.drop : ∀ {ds : List D} {vs : List V} (n : Nat), Rls K m H ds vs → Rls K m H (ds.drop n) (vs.drop n)
  | _, _, 0, h => h
  | [], _, n + 1, h => by simp only [Rls] at h; subst h; exact rfl
  | x :: ds, _, n + 1, h => by
    simp only [Rls] at h
    obtain ⟨w, r, e, q, t⟩ := h
    subst e
    exact Rls.drop n t
theorem Rls.take : ∀ {ds : List D} {vs : List V} (n : Nat), Rls K m H ds vs → Rls K m H (ds.take n) (vs.take n)
  | _, _, 0, h => rfl
  | [], _, n + 1, h => by simp only [Rls] at h; subst h; exact rfl
  | x :: ds, _, n + 1, h => by
    simp only [Rls] at h
    obtain ⟨w, r, e, q, t⟩ := h
    subst e
    exact ⟨_, _, rfl, q, Rls.take n t⟩
theorem Rls.reverse : ∀ {ds : List D} {vs : List V}, Rls K m H ds vs → Rls K m H ds.reverse vs.reverse
  | [], _, h => by simp only [Rls] at h; subst h; exact rfl
  | x :: ds, _, h => by
    simp only [Rls] at h
    obtain ⟨w, r, e, q, t⟩ := h
    subst e
    rw [List.reverse_cons, List.reverse_cons]
    exact Rls.append (Rls.reverse t) (Rls.one q)
theorem Rls.dropLast : ∀ {ds : List D} {vs : List V}, Rls K m H ds vs → Rls K m H ds.dropLast vs.dropLast := fun {ds vs} h => by
  rw [List.dropLast_eq_take, List.dropLast_eq_take, h.length]
  exact h.take _
theorem Rls.eraseIdx : ∀ {ds : List D} {vs : List V} (i : Nat), Rls K m H ds vs → Rls K m H (ds.eraseIdx i) (vs.eraseIdx i)
  | [], _, _, h => by simp only [Rls] at h; subst h; exact rfl
  | x :: ds, _, 0, h => by
    simp only [Rls] at h
    obtain ⟨w, r, e, q, t⟩ := h
    subst e
    exact t
  | x :: ds, _, i + 1, h => by
    simp only [Rls] at h
    obtain ⟨w, r, e, q, t⟩ := h
    subst e
    exact ⟨_, _, rfl, q, Rls.eraseIdx i t⟩
theorem Rls.flat : ∀ {k : Nat} {ds : List D} {vs : List V}, Rls K m H ds vs → Rls K m H (List.replicate k ds).flatten (List.replicate k vs).flatten
  | 0, _, _, _ => rfl
  | k + 1, _, _, h => by
    rw [List.replicate_succ, List.replicate_succ, List.flatten_cons, List.flatten_cons]
    exact Rls.append h (Rls.flat h)
theorem Rls.ints : ∀ {is : List Int}, Rls K m H (is.map D.int) (is.map V.int)
  | [] => rfl
  | i :: is => ⟨_, _, rfl, rfl, Rls.ints⟩
theorem Rls.of_ints : ∀ {is : List Int} {vs : List V}, Rls K m H (is.map D.int) vs → vs = is.map V.int
  | [], _, h => h
  | i :: is, _, h => by
    simp only [List.map, Rls] at h
    obtain ⟨v, r, e, q, t⟩ := h
    simp only [Rl] at q
    rw [e, q, Rls.of_ints t]
    rfl
end
/-! ### objects -/
/-- a key -/
def kD : Key → D
  | .inl i => .int i
  | .inr x => .str x.cps.toList
def RlK (K : Fg) (m : List Addr) (H : Hp) : List (D × D) → List (Key × V) → Prop
  | [], L => L = []
  | (k, d) :: r, L => ∃ q v t, L = (q, v) :: t ∧ k = kD q ∧ Rl K m H d v ∧ RlK K m H r t
/-! a key of a dict of tuples: None, ints, tuples of such -/
mutual
def nD : NestedKey → D
  | .none => .non
  | .num i => .int i
  | .text x => .str x.cps.toList
  | .tup ks => .tup (nDs ks)
def nDs : List NestedKey → List D
  | [] => []
  | k :: ks => nD k :: nDs ks
end
/-! a hash that does not hang on the world: texts have none -/
mutual
def nH : NestedKey → Int
  | .none => reduceHash 0xFCA86420
  | .num i => hashInt i
  | .text _ => 0
  | .tup ks => reduceHash (Builtin.Tuple.tupleHashOf (nHs ks))
def nHs : List NestedKey → List Int
  | [] => []
  | k :: ks => nH k :: nHs ks
end
mutual
def noTx : NestedKey → Bool
  | .none => true
  | .num _ => true
  | .text _ => false
  | .tup ks => noTxs ks
def noTxs : List NestedKey → Bool
  | [] => true
  | k :: ks => noTx k && noTxs ks
end
mutual
theorem nH_eq (w : World) : ∀ k : NestedKey, noTx k = true → NestedKey.hash w k = nH k
  | .none, _ => rfl
  | .num i, _ => rfl
  | .text _, h => by cases h
  | .tup ks, h => by
    simp only [NestedKey.hash, nH]
    rw [nHs_eq w ks (by simpa [noTx] using h)]
theorem nHs_eq (w : World) : ∀ ks : List NestedKey, noTxs ks = true → NestedKey.hashes w ks = nHs ks
  | [], _ => rfl
  | k :: ks, h => by
    simp only [noTxs, Bool.and_eq_true] at h
    simp only [NestedKey.hashes, nHs]
    rw [nH_eq w k h.1, nHs_eq w ks h.2]
end
/-- the entries of a dict of tuples, as written -/
def NE (xs : List (NestedKey × Addr × V)) (us : List (NestedKey × Addr × Value)) : Prop := Paired (fun p q => p.1 = q.1 ∧ p.2.1 = q.2.1 ∧ RelV p.2.2 q.2.2) xs us
def dNat (a : Addr) (xs : List (NestedKey × Addr × V)) (h : Heap) : Prop :=
  xs.length ≤ sizeLine ∧ (a == sysModules) = false ∧ ∃ us : List (NestedKey × Addr × Value), NE xs us ∧
    ∃ o es ep, h.get? a = some o ∧ o.ExactDict ∧ o.data = .dict es ep ∧ es.toList = us.map (fun x => (⟨nH x.1, .ref x.2.1, x.2.2⟩ : DictEntry)) ∧ (us.map (·.1)).Nodup
def dN (a : Addr) (xs : List (NestedKey × Addr × V)) : HO := .ext (dNat a xs)
def RlT (K : Fg) (m : List Addr) (H : Hp) : List (D × D) → List (NestedKey × Addr × V) → Prop
  | [], L => L = []
  | (k, d) :: r, L => ∃ q b v t, L = (q, b, v) :: t ∧ k = nD q ∧ noTx q = true ∧ q.depth ≤ 8 ∧ Rl K m H k (.ref b) ∧ Rl K m H d v ∧ RlT K m H r t
def RlO (K : Fg) (m : List Addr) (H : Hp) (a : Addr) : O → Prop
  | .lst xs => ∃ vs, H a = some (.lst vs) ∧ Rls K m H xs vs
  | .frz xs => ∃ ob vs, H a = some (.frz ob (.lst vs)) ∧ Rls K m H xs vs
  | .dK kvs => ∃ L, H a = some (.dK L) ∧ RlK K m H kvs L
  | .dT kvs => ∃ L, H a = some (dN a L) ∧ RlT K m H kvs L
section
variable {K : Fg} {m m' : List Addr} {H H' : Hp}
theorem RlK.mono (hm : ∀ (n : Nat) (a : Addr), m[n]? = some a → m'[n]? = some a) (ht : Kp H H') : ∀ (kvs : List (D × D)) (L : List (Key × V)), RlK K m H kvs L → RlK K m' H' kvs L
  | [], _, h => h
  | (k, d) :: r, _, h => by
    obtain ⟨q, v, t, e, e2, hd, hr⟩ := h
    exact ⟨q, v, t, e, e2, Rl.mono hm ht d v hd, RlK.mono hm ht r t hr⟩
theorem RlT.mono (hm : ∀ (n : Nat) (a : Addr), m[n]? = some a → m'[n]? = some a) (ht : Kp H H') : ∀ (kvs : List (D × D)) (L : List (NestedKey × Addr × V)), RlT K m H kvs L → RlT K m' H' kvs L
  | [], _, h => h
  | (k, d) :: r, _, h => by
    obtain ⟨q, b, v, t, e, e2, e3, e4, hk, hd, hr⟩ := h
    exact ⟨q, b, v, t, e, e2, e3, e4, Rl.mono hm ht k _ hk, Rl.mono hm ht d v hd, RlT.mono hm ht r t hr⟩
theorem RlO.mono {a : Addr} {o : O} (hm : ∀ (n : Nat) (a : Addr), m[n]? = some a → m'[n]? = some a) (ht : Kp H H') (ha : H' a = H a) (h : RlO K m H a o) : RlO K m' H' a o := by
  cases o with
  | lst xs => obtain ⟨vs, e, r⟩ := h; exact ⟨vs, ha.trans e, r.mono hm ht⟩
  | frz xs => obtain ⟨ob, vs, e, r⟩ := h; exact ⟨ob, vs, ha.trans e, r.mono hm ht⟩
  | dK kvs => obtain ⟨L, e, r⟩ := h; exact ⟨L, ha.trans e, r.mono hm ht⟩
  | dT kvs => obtain ⟨L, e, r⟩ := h; exact ⟨L, ha.trans e, r.mono hm ht⟩
/-- what stands at an object's address is no tuple -/
theorem RlO.smt {a : Addr} {o : O} (h : RlO K m H a o) : ∃ u, H a = some u ∧ (∀ vs, u ≠ .tup vs) ∧ ∀ ob vs, u ≠ .frz ob (.tup vs) := by
  cases o with
  | lst xs => obtain ⟨vs, e, r⟩ := h; exact ⟨_, e, (fun _ z => by cases z), (fun _ _ z => by cases z)⟩
  | frz xs => obtain ⟨ob, vs, e, r⟩ := h; exact ⟨_, e, (fun _ z => by cases z), (fun _ _ z => by cases z)⟩
  | dK kvs => obtain ⟨L, e, r⟩ := h; exact ⟨_, e, (fun _ z => by cases z), (fun _ _ z => by cases z)⟩
  | dT kvs => obtain ⟨L, e, r⟩ := h; exact ⟨_, e, (fun _ z => by cases z), (fun _ _ z => by cases z)⟩
end
/-- the heap -/
structure Hr (K : Fg) (m : List Addr) (h : Hh) (H : Hp) : Prop where
  len : m.length = h.length
  nd : m.Nodup
  ob : ∀ (n : Nat) (o : O) (a : Addr), h[n]? = some o → m[n]? = some a → RlO K m H a o
/-- a later heap: more objects, those that are not ours as they were -/
structure Ext (m m' : List Addr) (H H' : Hp) : Prop where
  pre : ∃ e, m' = m ++ e ∧ ∀ a ∈ e, H a = none
  out : ∀ a o, H a = some o → a ∉ m → H' a = some o
section
variable {K : Fg} {m m1 m2 : List Addr} {h h1 : Hh} {H H1 H2 : Hp}
theorem Hr.get (R : Hr K m h H) {n : Nat} {a : Addr} (e : m[n]? = some a) : ∃ o, h[n]? = some o ∧ RlO K m H a o := by
  have hn : n < h.length := by
    rw [← R.len]
    exact (List.getElem?_eq_some_iff.mp e).1
  refine ⟨h[n], by simp [hn], R.ob n h[n] a (by simp [hn]) e⟩
theorem Hr.at (R : Hr K m h H) {n : Nat} {o : O} (e : h[n]? = some o) : ∃ a, m[n]? = some a ∧ RlO K m H a o := by
  have hn : n < m.length := by
    rw [R.len]
    exact (List.getElem?_eq_some_iff.mp e).1
  exact ⟨m[n], by simp [hn], R.ob n o m[n] e (by simp [hn])⟩
theorem Hr.mem (R : Hr K m h H) {a : Addr} (e : a ∈ m) : ∃ u, H a = some u ∧ (∀ vs, u ≠ .tup vs) ∧ ∀ ob vs, u ≠ .frz ob (.tup vs) := by
  obtain ⟨n, hn⟩ := List.getElem?_of_mem e
  obtain ⟨o, _, r⟩ := R.get hn
  exact r.smt
theorem Ext.refl : Ext m m H H := ⟨⟨[], by simp, by simp⟩, fun _ _ e _ => e⟩
theorem Ext.ix (x : Ext m m1 H H1) : ∀ (n : Nat) (a : Addr), m[n]? = some a → m1[n]? = some a := fun n a e => by
  obtain ⟨t, e1, _⟩ := x.pre
  subst e1
  rw [List.getElem?_append_left (List.getElem?_eq_some_iff.mp e).1]
  exact e
theorem Ext.tup (R : Hr K m h H) (x : Ext m m1 H H1) : Kp H H1 := by
  refine ⟨fun a vs ⟨ob, q, hd⟩ => ⟨ob, x.out a _ q fun z => ?_, hd⟩, fun a vs q => x.out a _ q fun z => ?_⟩
  · obtain ⟨u, e, _, n1⟩ := R.mem z
    rw [q] at e
    cases e
    exact n1 ob vs rfl
  · obtain ⟨u, e, n1, _⟩ := R.mem z
    rw [q] at e
    cases e
    exact n1 vs rfl
theorem Ext.rl (R : Hr K m h H) (x : Ext m m1 H H1) {d : D} {v : V} (r : Rl K m H d v) : Rl K m1 H1 d v := Rl.mono x.ix (x.tup R) d v r
theorem Ext.rls (R : Hr K m h H) (x : Ext m m1 H H1) {d : List D} {v : List V} (r : Rls K m H d v) : Rls K m1 H1 d v := Rls.mono x.ix (x.tup R) d v r
theorem Ext.trans (R1 : Hr K m1 h1 H1) (x : Ext m m1 H H1) (y : Ext m1 m2 H1 H2) : Ext m m2 H H2 := by
  obtain ⟨e, e1, f1⟩ := x.pre
  obtain ⟨g, e2, f2⟩ := y.pre
  subst e1
  subst e2
  refine ⟨⟨e ++ g, by simp, fun a ha => ?_⟩, fun a o q n => ?_⟩
  · rcases List.mem_append.mp ha with z | z
    · exact f1 a z
    · cases q : H a with
      | none => rfl
      | some o =>
        by_cases hm : a ∈ m
        · obtain ⟨u, hu, _⟩ := R1.mem (a := a) (List.mem_append_left _ hm)
          rw [f2 a z] at hu
          cases hu
        · have := x.out a o q hm
          rw [f2 a z] at this
          cases this
  · have q1 := x.out a o q n
    refine y.out a o q1 fun z => ?_
    rcases List.mem_append.mp z with z | z
    · exact n z
    · rw [f1 a z] at q
      cases q
/-- a tuple laid anew -/
theorem Ext.newTup {p : Addr} {u : HO} (hp : H p = none) : Ext m m H (upd H p u) := ⟨⟨[], by simp, by simp⟩, fun a o e _ => by rw [upd_ne (ne_of_none e hp)]; exact e⟩
theorem Hr.newTup (R : Hr K m h H) {p : Addr} {u : HO} (hp : H p = none) : Hr K m h (upd H p u) := by
  refine ⟨R.len, R.nd, fun n o a e1 e2 => ?_⟩
  have r := R.ob n o a e1 e2
  have ne : a ≠ p := by
    obtain ⟨u, e, _⟩ := r.smt
    exact ne_of_none e hp
  exact r.mono (fun _ _ q => q) ((Ext.newTup hp).tup R) (upd_ne ne)
/-- an object laid anew -/
theorem Ext.new {p : Addr} {o : HO} (hp : H p = none) : Ext m (m ++ [p]) H (upd H p o) := ⟨⟨[p], rfl, fun a ha => by
  have e : a = p := by simpa using ha
  rw [e]; exact hp⟩, fun a u e _ => by rw [upd_ne (ne_of_none e hp)]; exact e⟩
theorem Hr.new (R : Hr K m h H) {p : Addr} {o : O} {u : HO} (hp : H p = none) (hu : RlO K (m ++ [p]) (upd H p u) p o) : Hr K (m ++ [p]) (h ++ [o]) (upd H p u) := by
  have hpm : p ∉ m := fun z => by
    obtain ⟨w, e, _⟩ := R.mem z
    rw [hp] at e
    cases e
  refine ⟨by simp [R.len], ?_, fun n ob a e1 e2 => ?_⟩
  · rw [List.nodup_append]
    refine ⟨R.nd, by simp, fun a ha b hb => ?_⟩
    have e : b = p := by simpa using hb
    subst e
    rintro rfl
    exact hpm ha
  · by_cases hn : n < m.length
    · rw [List.getElem?_append_left hn] at e2
      rw [List.getElem?_append_left (by rw [← R.len]; exact hn)] at e1
      have r := R.ob n ob a e1 e2
      have ne : a ≠ p := by
        obtain ⟨w, e, _⟩ := r.smt
        exact ne_of_none e hp
      exact r.mono ((Ext.new (o := u) hp).ix) ((Ext.new (o := u) hp).tup R) (upd_ne ne)
    · rw [List.getElem?_append_right (by omega)] at e2
      rw [List.getElem?_append_right (by rw [← R.len]; omega)] at e1
      rw [← R.len] at e1
      cases q : n - m.length with
      | zero =>
        rw [q] at e1 e2
        simp at e1 e2
        subst e1
        subst e2
        exact hu
      | succ j =>
        rw [q] at e1
        simp at e1
/-- an object changed -/
theorem Ext.set {n : Nat} {a : Addr} {u : HO} (e : m[n]? = some a) : Ext m m H (upd H a u) := ⟨⟨[], by simp, by simp⟩, fun b o q z => by
  have ne : b ≠ a := fun x => z (by rw [x]; exact List.mem_of_getElem? e)
  rw [upd_ne ne]
  exact q⟩
theorem Hr.set (R : Hr K m h H) {n : Nat} {a : Addr} {o : O} {u : HO} (e : m[n]? = some a) (hu : RlO K m (upd H a u) a o) : Hr K m (h.set n o) (upd H a u) := by
  refine ⟨by simp [R.len], R.nd, fun k ob b e1 e2 => ?_⟩
  by_cases hk : k = n
  · subst hk
    rw [e] at e2
    cases e2
    have hn : k < h.length := by
      rw [← R.len]
      exact (List.getElem?_eq_some_iff.mp e).1
    rw [List.getElem?_set_self hn] at e1
    cases e1
    exact hu
  · rw [List.getElem?_set_ne (Ne.symm hk)] at e1
    have r := R.ob k ob b e1 e2
    have ne : b ≠ a := fun x => by
      subst x
      exact hk ((List.getElem?_inj (by rw [R.len]; exact (List.getElem?_eq_some_iff.mp e1).1) R.nd).mp (e2.trans e.symm))
    exact r.mono (fun _ _ q => q) ((Ext.set (u := u) e).tup R) (upd_ne ne)
end
/-! ### slots -/
structure Sr (K : Fg) (m : List Addr) (H : Hp) (sg : Sg) (σ : L2.St) : Prop where
  len : σ.length = sg.length
  at_ : ∀ (i : Nat) (d : D), sg[i]? = some (some d) → ∃ v, σ[i]? = some (some v) ∧ Rl K m H d v
section
variable {K : Fg} {m m1 : List Addr} {h : Hh} {H H1 : Hp} {sg : Sg} {σ : L2.St}
theorem Ext.sr (R : Hr K m h H) (x : Ext m m1 H H1) (s : Sr K m H sg σ) : Sr K m1 H1 sg σ := ⟨s.len, fun i d e => by
  obtain ⟨v, e1, r⟩ := s.at_ i d e
  exact ⟨v, e1, x.rl R r⟩⟩
theorem Sr.set {i : Nat} {d : D} {v : V} (s : Sr K m H sg σ) (r : Rl K m H d v) : Sr K m H (sg.set i (some d)) (σ.set i (some v)) := ⟨by simp [s.len], fun j d' e => by
  by_cases hj : j = i
  · subst hj
    by_cases hl : j < sg.length
    · rw [List.getElem?_set_self hl] at e
      cases e
      exact ⟨v, by rw [List.getElem?_set_self (by rw [s.len]; exact hl)], r⟩
    · rw [List.getElem?_eq_none (by simpa using hl)] at e
      cases e
  · rw [List.getElem?_set_ne (Ne.symm hj)] at e ⊢
    exact s.at_ j d' e⟩
theorem Sr.unset {i : Nat} (s : Sr K m H sg σ) : Sr K m H (sg.set i none) (σ.set i none) := ⟨by simp [s.len], fun j d' e => by
  by_cases hj : j = i
  · subst hj
    by_cases hl : j < sg.length
    · rw [List.getElem?_set_self hl] at e
      cases e
    · rw [List.getElem?_eq_none (by simpa using hl)] at e
      cases e
  · rw [List.getElem?_set_ne (Ne.symm hj)] at e ⊢
    exact s.at_ j d' e⟩
theorem Sr.wipe (s : Sr K m H sg σ) : ∀ vs : List Nat, Sr K m H (Ez.wipe sg vs) (L2.wipe σ vs)
  | [] => s
  | v :: vs => (Sr.wipe s vs).unset
end
end Ez

/-! E2b: the operations by values -/
namespace Ez
open PySem PySem.Spec PyProof.Rows L2
/-- what is wanted of a value d and the heap behind -/
def Post (K : Fg) (m : List Addr) (h' : Hh) (d : D) (H : Hp) (Q : VK) : Prop := ∀ m' H' v, Ext m m' H H' → Hr K m' h' H' → Rl K m' H' d v → Q v H'
section
variable {K : Fg} {m : List Addr} {h : Hh} {H : Hp} {Q : VK}
theorem Post.here {d : D} {v : V} (P : Post K m h d H Q) (R : Hr K m h H) (r : Rl K m H d v) : Q v H := P m H v Ext.refl R r
theorem Post.tup {xs : List D} {vs : List V} {p : Addr} {ob : Obj} (P : Post K m h (.tup xs) H Q) (R : Hr K m h H) (r : Rls K m H xs vs) (hp : H p = none) (hd : ob.dict = none) : Q (.ref p) (upd H p (.frz ob (.tup vs))) :=
  P m _ _ (Ext.newTup hp) (R.newTup hp) ⟨p, vs, rfl, ⟨ob, upd_same, hd⟩, (Ext.newTup hp).rls R r⟩
theorem Post.new {o : O} {u : HO} {p : Addr} (P : Post K m (h ++ [o]) (.ref h.length) H Q) (R : Hr K m h H) (hp : H p = none) (hu : RlO K (m ++ [p]) (upd H p u) p o) : Q (.ref p) (upd H p u) :=
  P _ _ _ (Ext.new hp) (R.new hp hu) ⟨p, rfl, by rw [← R.len]; simp⟩
theorem Post.newL {xs : List D} {vs : List V} {p : Addr} (P : Post K m (h ++ [.lst xs]) (.ref h.length) H Q) (R : Hr K m h H) (hp : H p = none) (r : Rls K m H xs vs) : Q (.ref p) (upd H p (.lst vs)) :=
  P.new R hp ⟨vs, upd_same, (Ext.new hp).rls R r⟩
theorem Post.set {d : D} {v : V} {n : Nat} {a : Addr} {o : O} {u : HO} (P : Post K m (h.set n o) d H Q) (R : Hr K m h H) (e : m[n]? = some a) (hu : RlO K m (upd H a u) a o) (r : Rl K m H d v) : Q v (upd H a u) :=
  P _ _ _ (Ext.set e) (R.set e hu) ((Ext.set e).rl R r)
theorem Post.setL {d : D} {v : V} {n : Nat} {a : Addr} {xs : List D} {vs : List V} (P : Post K m (h.set n (.lst xs)) d H Q) (R : Hr K m h H) (e : m[n]? = some a) (hx : Rls K m H xs vs) (r : Rl K m H d v) : Q v (upd H a (.lst vs)) :=
  P.set R e ⟨vs, upd_same, (Ext.set e).rls R hx⟩ r
/-- a list that is read -/
theorem getL_ok {n : Nat} {xs : List D} {v : V} (R : Hr K m h H) (e : getL h n = some xs) (r : Rl K m H (.ref n) v) : ∃ a vs, v = .ref a ∧ m[n]? = some a ∧ SqL K H a vs ∧ Rls K m H xs vs := by
  simp only [Rl] at r
  obtain ⟨a, rfl, ha⟩ := r
  unfold getL at e
  obtain ⟨o, ho, q⟩ := R.get ha
  rw [ho] at e
  cases o with
  | lst ys =>
    cases e
    obtain ⟨vs, e1, r1⟩ := q
    exact ⟨a, vs, rfl, ha, SqL.of e1, r1⟩
  | frz ys =>
    cases e
    obtain ⟨ob, vs, e1, r1⟩ := q
    exact ⟨a, vs, rfl, ha, .inl (.inr ⟨ob, e1⟩), r1⟩
  | dK kvs => cases e
  | dT kvs => cases e
/-- a list that is changed -/
theorem getM_ok {n : Nat} {xs : List D} {v : V} (R : Hr K m h H) (e : getM h n = some xs) (r : Rl K m H (.ref n) v) : ∃ a vs, v = .ref a ∧ m[n]? = some a ∧ H a = some (.lst vs) ∧ Rls K m H xs vs := by
  simp only [Rl] at r
  obtain ⟨a, rfl, ha⟩ := r
  unfold getM at e
  obtain ⟨o, ho, q⟩ := R.get ha
  rw [ho] at e
  cases o with
  | lst ys =>
    cases e
    obtain ⟨vs, e1, r1⟩ := q
    exact ⟨a, vs, rfl, ha, e1, r1⟩
  | frz ys => cases e
  | dK kvs => cases e
  | dT kvs => cases e
end
/-! ### tuples laid anew, known to the object -/
/-- a new tuple -/
def NewT (H : Hp) (xs : List V) (Q : VK) : Prop := ∀ p ob, H p = none → ob.dict = none → Q (.ref p) (upd H p (.frz ob (.tup xs)))
theorem Post.newT {K : Fg} {m : List Addr} {h : Hh} {H : Hp} {Q : VK} {xs : List D} {vs : List V} (P : Post K m h (.tup xs) H Q) (R : Hr K m h H) (r : Rls K m H xs vs) : NewT H vs Q := fun _ _ hp hd => P.tup R r hp hd
section
variable {X : Cx}
theorem laidT {pins : List (Addr × Obj)} {s : Shared} {σ : L2.St} {H : Hp} {xs : List V} {its : List Value} {Q : VK} (I : Inv X pins σ H s) (hz : xs.length ≤ sizeLine) (r : Vals xs its) (q : NewT H xs Q) {t' : Nat} (ht : s.toks ≤ t' := by exact Nat.le_refl _) :
    EP X pins σ Q (.ref s.heap.objs.size) { s with heap := s.heap.push { cls := .type "tuple", data := .seq its.toArray }, toks := t' } :=
  ⟨.ref s.heap.objs.size, _, I.laid (o := .frz { cls := .type "tuple", data := .seq its.toArray } (.tup xs)) (fun b ob q => Heap.get?_push_of_some _ q) (Nat.le_refl _) ⟨Heap.get?_push_size _ rfl, hz, its, r, IsTup.new _ _⟩, rfl, q _ _ (I.hok.fresh (Nat.le_refl _)) rfl⟩
def rCatF (K : PySem.W.Frag) : R2 := fun x y H Q => ∃ a b xs ys, x = .ref a ∧ y = .ref b ∧ SqT K H a xs ∧ SqT K H b ys ∧ xs.length + ys.length ≤ sizeLine ∧
  (xs = [] → Q (.ref b) H) ∧ (xs ≠ [] → ys = [] → Q (.ref a) H) ∧ (xs ≠ [] → ys ≠ [] → NewT H (xs ++ ys) Q)
theorem op_catF : OpR X (binaryOp .Add) (rCatF X.K) := by
  intro pins s σ H x y v u Q I rx ry h
  obtain ⟨a, b, xs, ys, rfl, rfl, ha, hb, hz, q0, q1, q2⟩ := h
  cases rx
  cases ry
  obtain ⟨its, r1, p1, _⟩ := I.tuple ha
  obtain ⟨its2, r2, p2, _⟩ := I.tuple hb
  by_cases hx : xs = []
  · subst hx
    cases r1
    exact cat_tup0 p1 p2 ⟨.ref b, H, I, rfl, q0 rfl⟩
  · refine HT.cat_tup p1 p2 (fun z => hx (r1.nil_iff.mp z)) (fun z => ⟨.ref a, H, I, rfl, q1 hx (r2.nil_iff.mp z)⟩) (fun z => ?_) (by rw [← r1.length, ← r2.length]; exact hz)
    exact laidT I (by rw [List.length_append]; exact hz) (r1.append r2) (q2 hx fun w => z (r2.nil_iff.mpr w))
end
theorem bnd {α β : Type} {o : Option α} {f : α → Option β} {b : β} (h : o.bind f = some b) : ∃ a, o = some a ∧ f a = some b := by
  cases o with
  | none => cases h
  | some a => exact ⟨a, rfl, h⟩
theorem iff_some {α : Type} {c : Bool} {a b : α} (h : (if c = true then some a else none) = some b) : c = true ∧ a = b := by
  split at h
  · rename_i hc
    exact ⟨hc, Option.some.inj h⟩
  · cases h
theorem SL_eq : SL = sizeLine := rfl
/-! ### two-place operations -/
def bopOf : BOp → Operator
  | .add => .Add | .sub => .Sub | .mul => .Mult | .fdiv => .FloorDiv | .mod => .Mod | .pow => .Pow | .shl => .LShift
def rStr2 : R2 := fun x y H Q => ∃ i j, x = .str i ∧ y = .str j ∧ i.length + j.length ≤ sizeLine ∧ Q (.str (i ++ j)) H
def rBin (K : Fg) : BOp → R2
  | .add => fun x y H Q => rI0 (fun i j => .int (i + j)) x y H Q ∨ rStr2 x y H Q ∨ rCatF K x y H Q ∨ rCat x y H Q
  | .sub => rI0 fun i j => .int (i - j)
  | .mul => fun x y H Q => rI CMul (fun i j => .int (i * j)) x y H Q ∨ rRep x y H Q
  | .fdiv => rI CDiv fun i j => .int (i / j)
  | .mod => rI (fun _ j => 0 < j) fun i j => .int (i % j)
  | .pow => rI CPow fun i j => .int (i ^ j.toNat)
  | .shl => rI CPow fun i j => .int (i * 2 ^ j.toNat)
theorem op_bin {X : Cx} (op : BOp) : OpR X (binaryOp (bopOf op)) (rBin X.K op) := by
  cases op with
  | add => exact op_add.or (op_add_str.or (op_catF.or op_cat))
  | sub => exact op_sub
  | mul => exact op_mul.or op_rep
  | fdiv => exact op_fdiv
  | mod => exact op_mod
  | pow => exact op_pow
  | shl => exact op_shl
theorem inW_ok {i : Int} (h : inW i = true) : -(2 ^ 64) < i ∧ i < 2 ^ 64 := by
  have := Nat.le_of_ble_eq_true h
  omega
section
variable {K : Fg} {m : List Addr} {h h' : Hh} {H : Hp} {Q : VK} {x y d : D} {v u : V}
theorem alloc_some {o : O} (e : alloc h o = some (d, h')) : d = .ref h.length ∧ h' = h ++ [o] := by
  unfold alloc at e
  cases e
  exact ⟨rfl, rfl⟩
theorem str_len (s : List Nat) : (⟨s.toArray⟩ : Str).length = s.length := by
  show s.toArray.size = s.length
  simp
theorem str_app (s t : List Nat) : (⟨s.toArray⟩ : Str) ++ (⟨t.toArray⟩ : Str) = ⟨(s ++ t).toArray⟩ := by
  show (⟨s.toArray ++ t.toArray⟩ : Str) = _
  simp
theorem bin_ok {op : BOp} (e : binop op x y h = some (d, h')) (R : Hr K m h H) (rx : Rl K m H x v) (ry : Rl K m H y u) (P : Post K m h' d H Q) : rBin K op v u H Q := by
  cases op with
  | add =>
    simp only [binop] at e
    split at e
    · cases e
      simp only [Rl] at rx ry
      exact .inl ⟨_, _, rx, ry, P.here R rfl⟩
    · split at e
      · rename_i hl
        cases e
        simp only [Rl] at rx ry
        refine .inr (.inl ⟨_, _, rx, ry, by rw [str_len, str_len, ← SL_eq]; exact hl, ?_⟩)
        rw [str_app]
        exact P.here R rfl
      · cases e
    · rename_i xs ys
      split at e
      · rename_i hl
        cases e
        simp only [Rl] at rx ry
        obtain ⟨a, vs, rfl, qa, ra⟩ := rx
        obtain ⟨b, ws, rfl, qb, rb⟩ := ry
        refine .inr (.inr (.inl ⟨a, b, vs, ws, rfl, rfl, qa.sq, qb.sq, by rw [ra.length, rb.length, ← SL_eq]; exact hl, fun z => ?_, fun _ z => ?_, fun _ _ => ?_⟩))
        · subst z
          have : xs = [] := by
            have := ra.length
            simpa using this.symm
          subst this
          exact P.here R ⟨b, ws, rfl, qb, rb⟩
        · subst z
          have : ys = [] := by
            have := rb.length
            simpa using this.symm
          subst this
          rw [List.append_nil] at P
          exact P.here R ⟨a, vs, rfl, qa, ra⟩
        · exact P.newT R (ra.append rb)
      · cases e
    · obtain ⟨xs, e1, e⟩ := bnd e
      obtain ⟨ys, e2, e⟩ := bnd e
      split at e
      · rename_i hl
        obtain ⟨rfl, rfl⟩ := alloc_some e
        obtain ⟨a, vs, rfl, ha, qa, ra⟩ := getM_ok R e1 rx
        obtain ⟨b, ws, rfl, hb, qb, rb⟩ := getM_ok R e2 ry
        exact .inr (.inr (.inr ⟨a, b, vs, ws, rfl, rfl, qa, qb, by rw [ra.length, rb.length, ← SL_eq]; exact hl, fun p hp => P.newL R hp (ra.append rb)⟩))
      · cases e
    · cases e
  | sub =>
    simp only [binop] at e
    split at e
    · cases e
      simp only [Rl] at rx ry
      exact ⟨_, _, rx, ry, P.here R rfl⟩
    · cases e
  | mul =>
    simp only [binop] at e
    split at e
    · split at e
      · rename_i hl
        cases e
        simp only [Rl] at rx ry
        refine .inl ⟨_, _, rx, ry, ?_, P.here R rfl⟩
        rcases Bool.or_eq_true_iff.mp hl with z | z
        · exact .inl (inW_ok z)
        · exact .inr (inW_ok z)
      · cases e
    · rename_i k
      obtain ⟨xs, e1, e⟩ := bnd e
      split at e
      · rename_i hl
        obtain ⟨rfl, rfl⟩ := alloc_some e
        obtain ⟨a, vs, rfl, ha, qa, ra⟩ := getM_ok R e1 rx
        simp only [Rl] at ry
        simp only [Bool.and_eq_true, decide_eq_true_eq] at hl
        exact .inr ⟨a, k, vs, rfl, ry, qa, hl.1.1, hl.1.2, by rw [ra.length, ← SL_eq]; exact hl.2, fun p hp => P.newL R hp ra.flat⟩
      · cases e
    · cases e
  | fdiv =>
    simp only [binop] at e
    split at e
    · split at e
      · rename_i hl
        cases e
        simp only [Rl] at rx ry
        simp only [Bool.and_eq_true, decide_eq_true_eq] at hl
        exact ⟨_, _, rx, ry, hl, P.here R rfl⟩
      · cases e
    · cases e
  | mod =>
    simp only [binop] at e
    split at e
    · split at e
      · rename_i hl
        cases e
        simp only [Rl] at rx ry
        simp only [decide_eq_true_eq] at hl
        exact ⟨_, _, rx, ry, hl, P.here R rfl⟩
      · cases e
    · cases e
  | pow =>
    simp only [binop] at e
    split at e
    · split at e
      · rename_i hl
        cases e
        simp only [Rl] at rx ry
        simp only [Bool.and_eq_true, decide_eq_true_eq] at hl
        exact ⟨_, _, rx, ry, ⟨hl.1.1, hl.1.2, hl.2⟩, P.here R rfl⟩
      · cases e
    · cases e
  | shl =>
    simp only [binop] at e
    split at e
    · split at e
      · rename_i hl
        cases e
        simp only [Rl] at rx ry
        simp only [Bool.and_eq_true, decide_eq_true_eq] at hl
        exact ⟨_, _, rx, ry, ⟨hl.1.1, hl.1.2, hl.2⟩, P.here R rfl⟩
      · cases e
    · cases e
end
end Ez

/-! E2n: dicts whose keys are tuples, nested, of ints and None -/
namespace Ez
open PySem PySem.Spec PyProof.Rows L2
/-! ### keys in the heap -/
mutual
def NkV (H : Hp) : NestedKey → V → Prop
  | .none, v => v = .non
  | .num i, v => v = .int i
  | .text x, v => v = .str x
  | .tup ks, v => ∃ a vs, v = .ref a ∧ Tp H a vs ∧ NkVs H ks vs
def NkVs (H : Hp) : List NestedKey → List V → Prop
  | [], vs => vs = []
  | k :: ks, vs => ∃ v r, vs = v :: r ∧ NkV H k v ∧ NkVs H ks r
end
mutual
theorem NkV.mono {H H' : Hp} (ht : Kp H H') : ∀ (q : NestedKey) (v : V), NkV H q v → NkV H' q v
  | .none, _, h => h
  | .num _, _, h => h
  | .text _, _, h => h
  | .tup ks, _, h => by
    simp only [NkV] at h ⊢
    obtain ⟨a, vs, e, q, r⟩ := h
    exact ⟨a, vs, e, ht.1 a vs q, NkVs.mono ht ks vs r⟩
theorem NkVs.mono {H H' : Hp} (ht : Kp H H') : ∀ (q : List NestedKey) (v : List V), NkVs H q v → NkVs H' q v
  | [], _, h => h
  | k :: ks, _, h => by
    simp only [NkVs] at h ⊢
    obtain ⟨v, r, e, q, t⟩ := h
    exact ⟨v, r, e, NkV.mono ht k v q, NkVs.mono ht ks r t⟩
end
section
variable {X : Cx} {pins : List (Addr × Obj)} {σ : L2.St} {H : Hp} {s : Shared}
mutual
theorem NkV.is (I : Inv X pins σ H s) : ∀ (q : NestedKey) (v : V) (u : Value), NkV H q v → RelV v u → NestedIs s.heap q u
  | .none, _, _, h, r => by
    simp only [NkV] at h
    subst h
    cases r
    exact .none
  | .num i, _, _, h, r => by
    simp only [NkV] at h
    subst h
    obtain ⟨t, rfl⟩ := r
    exact .int i t
  | .text x, _, _, h, r => by
    simp only [NkV] at h
    subst h
    obtain ⟨t, rfl⟩ := r
    exact .text x t
  | .tup ks, _, _, h, r => by
    simp only [NkV] at h
    obtain ⟨a, vs, rfl, ⟨ob, e, _⟩, t⟩ := h
    cases r
    obtain ⟨_, hz, its, rv, o, ho, hc, n, hd⟩ := I.hok a _ e
    exact .tup ho hc hd (by simpa using NkVs.is I ks vs its t rv)
theorem NkVs.is (I : Inv X pins σ H s) : ∀ (q : List NestedKey) (vs : List V) (us : List Value), NkVs H q vs → Vals vs us → NestedAll s.heap q us
  | [], _, _, h, r => by
    simp only [NkVs] at h
    subst h
    cases r
    exact .nil
  | k :: ks, _, _, h, r => by
    simp only [NkVs] at h
    obtain ⟨v, t, rfl, q, g⟩ := h
    cases r with
    | cons r1 r2 => exact .cons (NkV.is I k v _ q r1) (NkVs.is I ks t _ g r2)
end
end
mutual
theorem NkV.of {K : Fg} {m : List Addr} {H : Hp} : ∀ (q : NestedKey) (v : V), noTx q = true → Rl K m H (nD q) v → NkV H q v
  | .none, _, _, h => by simpa only [nD, Rl, NkV] using h
  | .num _, _, _, h => by simpa only [nD, Rl, NkV] using h
  | .text _, _, n, _ => by cases n
  | .tup ks, _, n, h => by
    simp only [nD, Rl] at h
    simp only [NkV]
    obtain ⟨a, vs, e, q, r⟩ := h
    exact ⟨a, vs, e, q, NkVs.of ks vs (by simpa [noTx] using n) r⟩
theorem NkVs.of {K : Fg} {m : List Addr} {H : Hp} : ∀ (q : List NestedKey) (v : List V), noTxs q = true → Rls K m H (nDs q) v → NkVs H q v
  | [], _, _, h => by simpa only [nDs, Rls, NkVs] using h
  | k :: ks, _, n, h => by
    simp only [noTxs, Bool.and_eq_true] at n
    simp only [nDs, Rls] at h
    simp only [NkVs]
    obtain ⟨v, r, e, q, t⟩ := h
    exact ⟨v, r, e, NkV.of k v n.1 q, NkVs.of ks r n.2 t⟩
end
/-! ### the dict -/
/-- a key that serves -/
def KOk (H : Hp) (q : NestedKey) (b : Addr) : Prop := NkV H q (.ref b) ∧ noTx q = true ∧ q.depth ≤ 8
def KsOk (H : Hp) (L : List (NestedKey × Addr × V)) : Prop := ∀ x ∈ L, KOk H x.1 x.2.1
def valN (L : List (NestedKey × Addr × V)) (q : NestedKey) : Option V := (L.find? fun x => decide (x.1 = q)).map (·.2.2)
def putN (L : List (NestedKey × Addr × V)) (q : NestedKey) (b : Addr) (v : V) : List (NestedKey × Addr × V) :=
  if (valN L q).isSome then L.map (fun x => if x.1 = q then (x.1, x.2.1, v) else x) else L ++ [(q, b, v)]
theorem NE.val {L : List (NestedKey × Addr × V)} {us : List (NestedKey × Addr × Value)} (r : NE L us) (q : NestedKey) : RelO (valN L q) ((atKey us q).map (·.2)) := by
  induction r with
  | nil => trivial
  | @cons x u L us h r ih =>
    obtain ⟨e1, _, e3⟩ := h
    unfold valN atKey
    rw [List.find?_cons, List.find?_cons]
    by_cases e : x.1 = q
    · simp only [← e1, e, decide_true]
      exact e3
    · simp only [← e1, e, decide_false]
      exact ih
theorem NE.map {L : List (NestedKey × Addr × V)} {us : List (NestedKey × Addr × Value)} {q : NestedKey} {v : V} {u : Value} (rv : RelV v u) (r : NE L us) : NE (L.map fun x => if x.1 = q then (x.1, x.2.1, v) else x) (us.map (putAt q u)) := by
  induction r with
  | nil => exact .nil
  | @cons x y L us h r ih =>
    refine .cons ?_ ih
    unfold putAt
    simp only []
    obtain ⟨e1, e2, e3⟩ := h
    by_cases e : x.1 = q
    · rw [if_pos e, if_pos (e1 ▸ e)]
      exact ⟨e1, e2, rv⟩
    · rw [if_neg e, if_neg (e1 ▸ e)]
      exact ⟨e1, e2, e3⟩
theorem NE.snoc {L : List (NestedKey × Addr × V)} {us : List (NestedKey × Addr × Value)} {x : NestedKey × Addr × V} {y : NestedKey × Addr × Value} (r : NE L us) (h : x.1 = y.1 ∧ x.2.1 = y.2.1 ∧ RelV x.2.2 y.2.2) : NE (L ++ [x]) (us ++ [y]) := by
  induction r with
  | nil => exact .cons h .nil
  | cons g r ih => exact .cons g ih
theorem NE.put {L : List (NestedKey × Addr × V)} {us : List (NestedKey × Addr × Value)} {q : NestedKey} {b : Addr} {v : V} {u : Value} (rv : RelV v u) (r : NE L us) : NE (putN L q b v) (storedH us q b u) := by
  have h := (r.val q).isSome_eq
  rw [Option.isSome_map] at h
  unfold putN storedH
  rw [h]
  split
  · exact r.map rv
  · exact r.snoc ⟨rfl, rfl, rv⟩
theorem NE.length {L : List (NestedKey × Addr × V)} {us : List (NestedKey × Addr × Value)} (r : NE L us) : L.length = us.length := by
  induction r with
  | nil => rfl
  | cons _ _ ih => simp [ih]
theorem NE.mem {L : List (NestedKey × Addr × V)} {us : List (NestedKey × Addr × Value)} (r : NE L us) : ∀ y ∈ us, ∃ x ∈ L, x.1 = y.1 ∧ x.2.1 = y.2.1 := by
  induction r with
  | nil => intro y hy; cases hy
  | @cons x y L us h r ih =>
    intro z hz
    rcases List.mem_cons.mp hz with rfl | hz
    · exact ⟨x, List.mem_cons_self, h.1, h.2.1⟩
    · obtain ⟨w, hw, e⟩ := ih z hz
      exact ⟨w, List.mem_cons_of_mem _ hw, e⟩
theorem putN_length (L : List (NestedKey × Addr × V)) (q : NestedKey) (b : Addr) (v : V) : (putN L q b v).length ≤ L.length + 1 := by
  unfold putN
  split <;> simp
theorem KsOk.put {H : Hp} {L : List (NestedKey × Addr × V)} {q : NestedKey} {b : Addr} {v : V} (k : KsOk H L) (kq : KOk H q b) : KsOk H (putN L q b v) := by
  intro x hx
  unfold putN at hx
  split at hx
  · obtain ⟨y, hy, rfl⟩ := List.mem_map.mp hx
    split <;> exact k y hy
  · rcases List.mem_append.mp hx with hx | hx
    · exact k x hx
    · cases List.mem_singleton.mp hx
      exact kq
section
variable {X : Cx} {pins : List (Addr × Obj)} {σ : L2.St} {H : Hp} {s : Shared} {a b : Addr} {L : List (NestedKey × Addr × V)} {q : NestedKey}
theorem KOk.is (I : Inv X pins σ H s) (k : KOk H q b) : (nestedKind X.prog X.w).is s.heap q b := ⟨NkV.is I q _ _ k.1 rfl, k.2.2⟩
theorem dn_of (I : Inv X pins σ H s) (e : H a = some (dN a L)) (k : KsOk H L) : L.length ≤ sizeLine ∧ (a == sysModules) = false ∧ ∃ us, NE L us ∧ s.heap.DictOfH (nestedKind X.prog X.w) a us := by
  obtain ⟨⟨hz, hs, us, r, o, es, ep, h1, h2, h3, h4, h5⟩, _, _⟩ := I.hok a _ e
  refine ⟨hz, hs, us, r, o, es, ep, h1, h2, h3, ?_, fun y hy => ?_, h5⟩
  · rw [h4]
    refine List.map_congr_left fun y hy => ?_
    obtain ⟨x, hx, e1, e2⟩ := r.mem y hy
    show _ = (⟨NestedKey.hash X.w y.1, .ref y.2.1, y.2.2⟩ : DictEntry)
    rw [nH_eq X.w y.1 (by rw [← e1]; exact (k x hx).2.1)]
  · obtain ⟨x, hx, e1, e2⟩ := r.mem y hy
    rw [← e1, ← e2]
    exact (k x hx).is I
theorem dn_new {h' : Heap} {us : List (NestedKey × Addr × Value)} {H' : Hp} {P : Program} {w : World} (hz : L.length ≤ sizeLine) (hs : (a == sysModules) = false) (r : NE L us) (k : ∀ x ∈ L, noTx x.1 = true) (d : h'.DictOfH (nestedKind P w) a us) : ObjOk P w H' h' a (dN a L) := by
  obtain ⟨o, es, ep, h1, h2, h3, h4, h5, h6⟩ := d
  refine ⟨⟨hz, hs, us, r, o, es, ep, h1, h2, h3, ?_, h6⟩, ⟨o, h1⟩, fun g1 g2 ⟨hz, hs, us, r, o, es, ep, h1, h2, h3, h4, h5⟩ st => ⟨hz, hs, us, r, o, es, ep, st o h1, h2, h3, h4, h5⟩⟩
  rw [h4]
  refine List.map_congr_left fun y hy => ?_
  obtain ⟨x, hx, e1, e2⟩ := r.mem y hy
  show (⟨NestedKey.hash w y.1, .ref y.2.1, y.2.2⟩ : DictEntry) = _
  rw [nH_eq w y.1 (by rw [← e1]; exact k x hx)]
theorem dn_empty (I : Inv X pins σ H s) {t' : Nat} : Inv X pins σ (upd H s.heap.objs.size (dN s.heap.objs.size [])) { s with heap := s.heap.push { cls := .type "dict", data := .dict #[] }, toks := t' } :=
  I.laid (fun b ob q => Heap.get?_push_of_some _ q) (Nat.le_refl _) (dn_new (Nat.zero_le _) (beq_eq_false_iff_ne.mpr (Nat.ne_of_gt I.big)) .nil (fun x hx => by cases hx) (Heap.DictOfH.new _))
/-- a dict that is asked at y, by any kind of key -/
def DG (H : Hp) (a : Addr) (y : V) (o : Option V) : Prop := DGet H a y o ∨ ∃ L q b, H a = some (dN a L) ∧ KsOk H L ∧ y = .ref b ∧ KOk H q b ∧ o = valN L q
def DPt (H : Hp) (a : Addr) (y v : V) (H' : Hp) : Prop := DPut H a y v H' ∨ ∃ L q b, H a = some (dN a L) ∧ KsOk H L ∧ y = .ref b ∧ KOk H q b ∧ L.length < sizeLine ∧ H' = upd H a (dN a (putN L q b v))
def IsDN (H : Hp) (a : Addr) : Prop := IsD H a ∨ ∃ L, H a = some (dN a L)
variable {y v d : V} {u r : Value} {o : Option V} {A : Around} {E : Value → Shared → Prop}
theorem room8 (hu : A.units + 9 < cLine) : (nestedKind X.prog X.w).room A.in1 := by
  show A.units + 1 + 8 < cLine
  omega
theorem dg_getItem {Q : Value → Shared → Prop} (hu : A.units + 9 < cLine) (I : Inv X pins σ H s) (g : DG H a y (some v)) (ry : RelV y u) (h : ∀ w' s', Inv X pins σ H s' → RelV v w' → Q w' s') :
    wpAny (model X.prog X.w) A (getItem (.ref a) u) Q E s := by
  rcases g with g | ⟨L, q, b, e, kk, rfl, kq, l⟩
  · exact d_getItem (by omega) I g ry h
  · cases ry
    obtain ⟨hz, hs, us, rel, dd⟩ := dn_of I e kk
    have rq := rel.val q
    rw [← l] at rq
    obtain ⟨w', hw, rw'⟩ := RelO.some_of rq
    obtain ⟨p, hp, hp2⟩ := Option.map_eq_some_iff.mp hw
    refine wpAny_getItem_heap (room8 hu) (kq.is I) dd hp ?_
    rw [hp2]
    exact h w' _ (I.tok _) rw'
theorem dg_in {Q : Value → Shared → Prop} (hu : A.units + 9 < cLine) (I : Inv X pins σ H s) (g : DG H a y o) (ry : RelV y u) (h : ∀ s', Inv X pins σ H s' → Q (.bool o.isSome) s') :
    wpAny (model X.prog X.w) A (compareOp .In u (.ref a)) Q E s := by
  rcases g with g | ⟨L, q, b, e, kk, rfl, kq, l⟩
  · exact d_in (by omega) I g ry h
  · cases ry
    obtain ⟨hz, hs, us, rel, dd⟩ := dn_of I e kk
    have rq := (rel.val q).isSome_eq
    rw [← l, Option.isSome_map] at rq
    refine wpAny_in_heap (room8 hu) (kq.is I) hs dd ?_
    rw [← rq]
    exact h _ (I.tok _)
theorem dg_notIn {Q : Value → Shared → Prop} (hu : A.units + 9 < cLine) (I : Inv X pins σ H s) (g : DG H a y o) (ry : RelV y u) (h : ∀ s', Inv X pins σ H s' → Q (.bool (!o.isSome)) s') :
    wpAny (model X.prog X.w) A (compareOp .NotIn u (.ref a)) Q E s := by
  rcases g with g | ⟨L, q, b, e, kk, rfl, kq, l⟩
  · exact d_notIn (by omega) I g ry h
  · cases ry
    obtain ⟨hz, hs, us, rel, dd⟩ := dn_of I e kk
    have rq := (rel.val q).isSome_eq
    rw [← l, Option.isSome_map] at rq
    refine wpAny_notIn_heap (room8 hu) (kq.is I) hs dd ?_
    rw [← rq]
    exact h _ (I.tok _)
theorem dg_get1 {Q : Value → Shared → Prop} (hu : A.units + 9 < cLine) (I : Inv X pins σ H s) (g : DG H a y o) (ry : RelV y u) (h : ∀ w' s', Inv X pins σ H s' → RelV (o.getD .non) w' → Q w' s') :
    wpAny (model X.prog X.w) A (call (.builtin "dict.get") [.ref a, u]) Q E s := by
  rcases g with g | ⟨L, q, b, e, kk, rfl, kq, l⟩
  · exact d_get1 (by omega) I g ry h
  · cases ry
    obtain ⟨hz, hs, us, rel, dd⟩ := dn_of I e kk
    have rq := rel.val q
    rw [← l] at rq
    refine call_meetsIn PySem.F.slot_dict_get dd.typeIs PySem.F.entry_dict_get (PySem.F.args_dict_get_2 _ _) (meetsH_dict_get (nestedKind X.prog X.w) a b hs) ⟨room8 hu, q, us, kq.is I, dd, h _ _ (I.tok _) ?_⟩
    exact rq.getD rfl
theorem dg_get2 {Q : Value → Shared → Prop} (hu : A.units + 9 < cLine) (I : Inv X pins σ H s) (g : DG H a y o) (ry : RelV y u) (rd : RelV d r) (h : ∀ w' s', Inv X pins σ H s' → RelV (o.getD d) w' → Q w' s') :
    wpAny (model X.prog X.w) A (call (.builtin "dict.get") [.ref a, u, r]) Q E s := by
  rcases g with g | ⟨L, q, b, e, kk, rfl, kq, l⟩
  · exact d_get2 (by omega) I g ry rd h
  · cases ry
    obtain ⟨hz, hs, us, rel, dd⟩ := dn_of I e kk
    have rq := rel.val q
    rw [← l] at rq
    refine call_meetsIn PySem.F.slot_dict_get dd.typeIs PySem.F.entry_dict_get (PySem.F.args_dict_get_3 _ _ _) (meetsH_dict_get_default (nestedKind X.prog X.w) a b hs r) ⟨room8 hu, q, us, kq.is I, dd, h _ _ (I.tok _) ?_⟩
    exact rq.getD rd
theorem dp_setItem {H' : Hp} {Q : Unit → Shared → Prop} (hu : A.units + 9 < cLine) (I : Inv X pins σ H s) (g : DPt H a y v H') (ry : RelV y u) (rv : RelV v r) (h : ∀ s', Inv X pins σ H' s' → Q () s') :
    wpAny (model X.prog X.w) A (setItem (.ref a) u r) Q E s := by
  rcases g with g | ⟨L, q, b, e, kk, rfl, kq, hl, rfl⟩
  · exact d_setItem (by omega) I g ry rv h
  · cases ry
    obtain ⟨hz, hs, us, rel, dd⟩ := dn_of I e kk
    refine wpAny_setItem_heap (hsz := by rw [← rel.length]; exact hz) (room8 hu) (kq.is I) dd fun h' dd' hb => h _ ?_
    have hh : ∃ p, h'.get? a = some p := let ⟨p, _, _, hp, _⟩ := dd'; ⟨p, hp⟩
    exact d_write I (by rw [e]; exact True.intro) hb hh (dn_new (by have := putN_length L q b v; omega) hs (rel.put rv) (fun x hx => (kk.put kq x hx).2.1) dd')
theorem dg_typeIs (I : Inv X pins σ H s) (g : DG H a y o) : s.TypeIs (.ref a) "dict" := by
  rcases g with g | ⟨L, q, b, e, kk, _⟩
  · exact dict_typeIs I g
  · obtain ⟨_, _, us, _, dd⟩ := dn_of I e kk
    exact dd.typeIs
theorem isDN_at (I : Inv X pins σ H s) (d : IsDN H a) :
    s.TypeIs (.ref a) "dict" ∧ (∀ b, Value.ref a = .ref b → ∃ ob, s.heap.get? b = some ob ∧ ob.dict = none) ∧ (a == sysModules) = false := by
  rcases d with d | ⟨L, e⟩
  · exact isD_at I d
  · obtain ⟨⟨hz, hs, us, r, o, es, ep, h1, h2, h3, h4, h5⟩, _, _⟩ := I.hok a _ e
    refine ⟨⟨o, h1, h2.1⟩, fun b q => ?_, hs⟩
    cases q
    exact ⟨o, h1, h2.2.1⟩
end
end Ez

/-! E2c: comparisons, truth, places -/
namespace Ez
open PySem PySem.Spec PyProof.Rows L2
/-! ### data -/
section
variable {K : Fg} {m : List Addr} {h : Hh} {H : Hp}
theorem strOk_ok {s : List Nat} (e : strOk s = true) : PyData.canLay0 (.str ⟨s.toArray⟩) = true := by
  simp only [PyData.canLay0]
  unfold strOk at e
  rw [List.all_eq_true] at e
  show (s.toArray.all fun c => decide (c < 0x110000)) = true
  rw [List.all_toArray, List.all_eq_true]
  intro x hx
  have := e x hx
  simp only [decide_eq_true_eq] at this ⊢
  omega
mutual
theorem toP_ok (R : Hr K m h H) : ∀ (n : Nat) (d : D) (p : P) (v : V), toP h n d = some p → Rl K m H d v → Dp K H v (toPy p) ∧ PyData.canLay0 (toPy p) = true ∧ (toPy p).depth ≤ n
  | 0, d, p, v, e, r => by
    cases d with
    | non => cases e; simp only [Rl] at r; subst r; exact ⟨.non, by simp [toPy, PyData.canLay0], by simp [toPy, PyData.depth]⟩
    | bl b => cases e; simp only [Rl] at r; subst r; exact ⟨.bl b, by simp [toPy, PyData.canLay0], by simp [toPy, PyData.depth]⟩
    | int i => cases e; simp only [Rl] at r; subst r; exact ⟨.int i, by simp [toPy, PyData.canLay0], by simp [toPy, PyData.depth]⟩
    | str s =>
      simp only [toP] at e
      split at e
      · rename_i hs
        cases e
        simp only [Rl] at r
        subst r
        exact ⟨.str _, strOk_ok hs, by simp [toPy, PyData.depth]⟩
      · cases e
    | tup xs => cases e
    | ref k => cases e
    | rp q => cases e
    | ptp q => cases e
  | n + 1, d, p, v, e, r => by
    cases d with
    | non => cases e; simp only [Rl] at r; subst r; exact ⟨.non, by simp [toPy, PyData.canLay0], by simp [toPy, PyData.depth]⟩
    | bl b => cases e; simp only [Rl] at r; subst r; exact ⟨.bl b, by simp [toPy, PyData.canLay0], by simp [toPy, PyData.depth]⟩
    | int i => cases e; simp only [Rl] at r; subst r; exact ⟨.int i, by simp [toPy, PyData.canLay0], by simp [toPy, PyData.depth]⟩
    | str s =>
      simp only [toP] at e
      split at e
      · rename_i hs
        cases e
        simp only [Rl] at r
        subst r
        exact ⟨.str _, strOk_ok hs, by simp [toPy, PyData.depth]⟩
      · cases e
    | tup xs =>
      simp only [toP] at e
      obtain ⟨ps, e1, e2⟩ := bnd e
      cases e2
      simp only [Rl] at r
      obtain ⟨a, vs, rfl, q, rs⟩ := r
      obtain ⟨h1, h2, h3⟩ := toPs_ok R n xs ps vs e1 rs
      exact ⟨.tup (q.sq) h1, by simpa [toPy, PyData.canLay0] using h2, by simp only [toPy, PyData.depth]; omega⟩
    | ref k =>
      simp only [toP] at e
      obtain ⟨xs, e0, e⟩ := bnd e
      obtain ⟨ps, e1, e2⟩ := bnd e
      cases e2
      obtain ⟨a, vs, rfl, _, q, rs⟩ := getL_ok R e0 r
      obtain ⟨h1, h2, h3⟩ := toPs_ok R n xs ps vs e1 rs
      exact ⟨.lst q h1, by simpa [toPy, PyData.canLay0] using h2, by simp only [toPy, PyData.depth]; omega⟩
    | rp q => cases e
    | ptp q => cases e
theorem toPs_ok (R : Hr K m h H) : ∀ (n : Nat) (ds : List D) (ps : List P) (vs : List V), mapO (toP h n) ds = some ps → Rls K m H ds vs → DpAll K H vs (toPys ps) ∧ PyData.canLayAll0 (toPys ps) = true ∧ PyData.depthAll (toPys ps) ≤ n
  | n, [], ps, vs, e, r => by
    cases e
    simp only [Rls] at r
    subst r
    exact ⟨.nil, by simp [toPys, PyData.canLayAll0], by simp [toPys, PyData.depthAll]⟩
  | n, d :: ds, ps, vs, e, r => by
    simp only [mapO] at e
    obtain ⟨y, e1, e⟩ := bnd e
    obtain ⟨ys, e2, e⟩ := bnd e
    cases e
    simp only [Rls] at r
    obtain ⟨v, t, rfl, r1, r2⟩ := r
    obtain ⟨h1, h2, h3⟩ := toP_ok R n d y v e1 r1
    obtain ⟨g1, g2, g3⟩ := toPs_ok R n ds ys t e2 r2
    exact ⟨.cons h1 g1, by simp [toPys, PyData.canLayAll0, h2, g2], by simp only [toPys, PyData.depthAll]; omega⟩
end
end
mutual
theorem eqv_ok : ∀ p q : P, PyData.eqv (toPy p) (toPy q) = eqv p q
  | .non, q => by cases q <;> simp [toPy, PyData.eqv, eqv]
  | .bl a, q => by cases q <;> simp [toPy, PyData.eqv, eqv, b2i]
  | .int i, q => by cases q <;> simp [toPy, PyData.eqv, eqv, b2i]
  | .str x, q => by
    cases q <;> simp [toPy, PyData.eqv, eqv]
    rename_i y
    rw [Bool.eq_iff_iff]
    simp
  | .tup xs, q => by
    cases q <;> simp only [toPy, PyData.eqv, eqv]
    exact eqvs_ok xs _
  | .lst xs, q => by
    cases q <;> simp only [toPy, PyData.eqv, eqv]
    exact eqvs_ok xs _
theorem eqvs_ok : ∀ ps qs : List P, PyData.eqvAll (toPys ps) (toPys qs) = eqvs ps qs
  | [], qs => by cases qs <;> simp [toPys, PyData.eqvAll, eqvs]
  | p :: ps, qs => by
    cases qs with
    | nil => simp [toPys, PyData.eqvAll, eqvs]
    | cons q qs => simp only [toPys, PyData.eqvAll, eqvs, eqv_ok p q, eqvs_ok ps qs]
end
mutual
theorem same_ok : ∀ p q : P, same p q = true → p = q
  | .non, q, e => by cases q <;> simp [same] at e ⊢
  | .bl a, q, e => by cases q <;> simp [same] at e ⊢; exact e
  | .int i, q, e => by cases q <;> simp [same] at e ⊢; exact e
  | .str x, q, e => by cases q <;> simp [same] at e ⊢; exact e
  | .tup xs, q, e => by
    cases q <;> simp [same] at e ⊢
    exact sames_ok xs _ e
  | .lst xs, q, e => by
    cases q <;> simp [same] at e ⊢
    exact sames_ok xs _ e
theorem sames_ok : ∀ ps qs : List P, sames ps qs = true → ps = qs
  | [], qs, e => by cases qs <;> simp [sames] at e ⊢
  | p :: ps, qs, e => by
    cases qs with
    | nil => simp [sames] at e
    | cons q qs =>
      simp [sames] at e
      rw [same_ok p q e.1, sames_ok ps qs e.2]
end
mutual
theorem same_refl : ∀ p : P, same p p = true
  | .non => by simp [same]
  | .bl _ => by simp [same]
  | .int _ => by simp [same]
  | .str _ => by simp [same]
  | .tup xs => by simp only [same]; exact sames_refl xs
  | .lst xs => by simp only [same]; exact sames_refl xs
theorem sames_refl : ∀ ps : List P, sames ps ps = true
  | [] => by simp [sames]
  | p :: ps => by simp only [sames, same_refl p, sames_refl ps, Bool.and_self]
end
/-! ### comparisons -/
def copOf : COp → CmpOp
  | .eq => .Eq | .ne => .NotEq | .lt => .Lt | .le => .LtE | .gt => .Gt | .ge => .GtE | .is => .Is | .isn => .IsNot | .inn => .In | .nin => .NotIn
def rDin (neg : Bool) : R2 := fun y x H Q => ∃ a o, x = .ref a ∧ DG H a y o ∧ Q (.bl (if neg then !o.isSome else o.isSome)) H
theorem op_din {X : Cx} (hu : X.A.units + 9 < cLine) : OpR X (compareOp .In) (rDin false) := by
  intro pins s σ H y x v u Q I ry rx h
  obtain ⟨a, o, rfl, g, q⟩ := h
  cases rx
  exact dg_in hu I g ry fun s3 I3 => ⟨.bl o.isSome, H, I3, rfl, q⟩
theorem op_dnin {X : Cx} (hu : X.A.units + 9 < cLine) : OpR X (compareOp .NotIn) (rDin true) := by
  intro pins s σ H y x v u Q I ry rx h
  obtain ⟨a, o, rfl, g, q⟩ := h
  cases rx
  exact dg_notIn hu I g ry fun s3 I3 => ⟨.bl (!o.isSome), H, I3, rfl, q⟩
def rLtS : R2 := fun x y H Q => ∃ i j, x = .str i ∧ y = .str j ∧ Q (.bl (decide (i.cps.toList < j.cps.toList))) H
def rIsN : R2 := fun x y H Q => y = .non ∧ Q (.bl (decide (x = .non))) H
def rNotN : R2 := fun x y H Q => y = .non ∧ Q (.bl (!decide (x = .non))) H
def rCmp (K : Fg) : COp → R2
  | .eq => fun x y H Q => rEq x y H Q ∨ rEqD K x y H Q
  | .ne => fun x y H Q => rNe x y H Q ∨ rNeD K x y H Q
  | .lt => fun x y H Q => rI0 (fun i j => .bl (decide (i < j))) x y H Q ∨ rLtS x y H Q ∨ rLtT K x y H Q
  | .le => rI0 fun i j => .bl (decide (i ≤ j))
  | .gt => rI0 fun i j => .bl (decide (j < i))
  | .ge => rI0 fun i j => .bl (decide (j ≤ i))
  | .is => fun x y H Q => rIsN x y H Q ∨ rIsB x y H Q
  | .isn => rNotN
  | .inn => fun x y H Q => rIn K false x y H Q ∨ rInD K x y H Q ∨ rDin false x y H Q
  | .nin => fun x y H Q => rIn K true x y H Q ∨ rNotInD K x y H Q ∨ rDin true x y H Q
theorem op_cmp {X : Cx} (hu : X.A.units + 65 < cLine) (op : COp) : OpR X (compareOp (copOf op)) (rCmp X.K op) := by
  cases op with
  | eq => exact op_eq.or (op_eqD (by omega))
  | ne => exact op_ne.or (op_neD (by omega))
  | lt => exact op_lt.or (op_lt_str.or (op_ltT (by omega)))
  | le => exact op_le
  | gt => exact op_gt
  | ge => exact op_ge
  | is => exact op_isN.or op_isBl
  | isn => exact op_notN
  | inn => exact op_in_seq.or ((op_inD hu).or (op_din (by omega)))
  | nin => exact op_notIn_seq.or ((op_notInD hu).or (op_dnin (by omega)))
section
variable {K : Fg} {m : List Addr} {h : Hh} {H : Hp} {Q : VK} {x y : D} {v u : V} {b : Bool}
/-- what a comparison asks of its answer: the heap stays -/
theorem shaped_of {p : P} {n : Nat} (h1 : PyData.canLay0 (toPy p) = true) (h2 : (toPy p).depth ≤ n) (hn : n ≤ 64) : SeqAt.shaped (toPy p) = true := by
  unfold SeqAt.shaped
  rw [h1, Bool.true_and, decide_eq_true_eq]
  omega
theorem eqD_ok (e : eqD h x y = some b) (R : Hr K m h H) (rx : Rl K m H x v) (ry : Rl K m H y u) : (scal v u = true ∧ decide (v = u) = b) ∨ ∃ d e, Dp K H v d ∧ Dp K H u e ∧ SeqAt.shaped d = true ∧ SeqAt.shaped e = true ∧ PyData.eqv d e = b := by
  unfold eqD at e
  split at e
  · rename_i i j
    cases e
    simp only [Rl] at rx ry
    subst rx
    subst ry
    exact .inl ⟨rfl, dec_int⟩
  · rename_i p q
    split at e
    · rename_i hs
      cases e
      have := same_ok p q hs
      subst this
      simp only [Rl] at rx ry
      subst rx
      subst ry
      exact .inl ⟨rfl, by simp⟩
    · cases e
  · obtain ⟨p, e1, e⟩ := bnd e
    obtain ⟨q, e2, e⟩ := bnd e
    cases e
    obtain ⟨a1, a2, a3⟩ := toP_ok R DP x p v e1 rx
    obtain ⟨b1, b2, b3⟩ := toP_ok R DP y q u e2 ry
    exact .inr ⟨_, _, a1, b1, shaped_of a2 a3 (by decide), shaped_of b2 b3 (by decide), eqv_ok p q⟩
theorem flat_ok {d : D} (e : flat d = true) (r : Rl K m H d v) : flatV v = true := by
  cases d <;> simp [flat] at e <;> (simp only [Rl] at r; subst r; rfl)
theorem flats_ok : ∀ {ds : List D} {vs : List V}, ds.all flat = true → Rls K m H ds vs → vs.all flatV = true
  | [], _, _, r => by simp only [Rls] at r; subst r; rfl
  | d :: ds, _, e, r => by
    simp only [Rls] at r
    obtain ⟨v, t, rfl, r1, r2⟩ := r
    rw [List.all_cons, Bool.and_eq_true] at e ⊢
    exact ⟨flat_ok e.1 r1, flats_ok e.2 r2⟩
theorem str_beq (s t : List Nat) : ((⟨s.toArray⟩ : Str) == ⟨t.toArray⟩) = (s == t) := by
  rw [Bool.eq_iff_iff]
  simp
theorem feq_ok (ex : flat x = true) (ey : flat y = true) (rx : Rl K m H x v) (ry : Rl K m H y u) : eqV v u = feq x y := by
  cases x <;> simp [flat] at ex <;> cases y <;> simp [flat] at ey <;> (simp only [Rl] at rx ry; subst rx; subst ry) <;> first | rfl | exact str_beq _ _
theorem any_ok (ex : flat x = true) (rx : Rl K m H x v) : ∀ {ds : List D} {vs : List V}, ds.all flat = true → Rls K m H ds vs → inV v vs = ds.any fun z => feq z x
  | [], _, _, r => by simp only [Rls] at r; subst r; rfl
  | d :: ds, _, e, r => by
    simp only [Rls] at r
    obtain ⟨w, t, rfl, r1, r2⟩ := r
    rw [List.all_cons, Bool.and_eq_true] at e
    have ih := any_ok ex rx e.2 r2
    unfold inV at ih ⊢
    rw [List.any_cons, List.any_cons, ih, feq_ok e.1 ex r1 rx]
/-! keys -/
theorem keyK_ok {k : D} (e : keyK k = true) (r : Rl K m H k v) : ∃ q : Key, k = kD q ∧ v = kV q := by
  cases k <;> simp [keyK] at e
  · simp only [Rl] at r; subst r; exact ⟨.inl _, rfl, rfl⟩
  · simp only [Rl] at r; subst r; exact ⟨.inr ⟨_⟩, rfl, rfl⟩
theorem keyKs_ok : ∀ {ks : List D} {vs : List V}, ks.all keyK = true → Rls K m H ks vs → ∃ qs : List Key, ks = qs.map kD ∧ vs = qs.map kV
  | [], _, _, r => by simp only [Rls] at r; subst r; exact ⟨[], rfl, rfl⟩
  | k :: ks, _, e, r => by
    simp only [Rls] at r
    obtain ⟨w, t, rfl, r1, r2⟩ := r
    rw [List.all_cons, Bool.and_eq_true] at e
    obtain ⟨q, e1, e2⟩ := keyK_ok e.1 r1
    obtain ⟨qs, f1, f2⟩ := keyKs_ok e.2 r2
    exact ⟨q :: qs, by rw [e1, f1]; rfl, by rw [e2, f2]; rfl⟩
theorem keqK_iff (p q : Key) : keqK (kD p) (kD q) = decide (p = q) := by
  cases p with
  | inl i =>
    cases q with
    | inl j => rw [key_ll]; rfl
    | inr y => rw [key_lr]; rfl
  | inr x =>
    cases q with
    | inl j => rw [key_rl]; rfl
    | inr y =>
      rw [key_rr]
      show (x.cps.toList == y.cps.toList) = _
      rw [Bool.eq_iff_iff]
      simp only [beq_iff_eq, decide_eq_true_eq]
      constructor
      · intro e
        cases x
        cases y
        simp only at e
        rw [Str.mk.injEq]
        exact Array.toList_inj.mp e
      · rintro rfl
        rfl
mutual
theorem keqT_iff : ∀ p q : NestedKey, noTx p = true → noTx q = true → keqT (nD p) (nD q) = decide (p = q)
  | .none, q, _, n => by
    cases q with
    | none => simp [nD, keqT]
    | num j => simp [nD, keqT]
    | text x => cases n
    | tup qs => simp [nD, keqT]
  | .num i, q, _, n => by
    cases q with
    | none => simp [nD, keqT]
    | num j =>
      simp only [nD, keqT]
      rw [Bool.eq_iff_iff]
      simp
    | text x => cases n
    | tup qs => simp [nD, keqT]
  | .text _, _, n, _ => by cases n
  | .tup ps, q, n, n2 => by
    cases q with
    | none => simp [nD, keqT]
    | num j => simp [nD, keqT]
    | text x => cases n2
    | tup qs =>
      simp only [nD, keqT]
      rw [keqs_iff ps qs (by simpa [noTx] using n) (by simpa [noTx] using n2), Bool.eq_iff_iff]
      simp
theorem keqs_iff : ∀ ps qs : List NestedKey, noTxs ps = true → noTxs qs = true → keqs (nDs ps) (nDs qs) = decide (ps = qs)
  | [], [], _, _ => by simp [nDs, keqs]
  | [], q :: qs, _, _ => by simp [nDs, keqs]
  | p :: ps, [], _, _ => by simp [nDs, keqs]
  | p :: ps, q :: qs, h, g => by
    simp only [noTxs, Bool.and_eq_true] at h g
    simp only [nDs, keqs]
    rw [keqT_iff p q h.1 g.1, keqs_iff ps qs h.2 g.2, Bool.eq_iff_iff]
    simp
end
theorem keyN0_ok {k : D} (e : keyN 0 k = true) : ∃ q : NestedKey, k = nD q ∧ noTx q = true ∧ q.depth ≤ 0 := by
  cases k <;> simp [keyN] at e
  · exact ⟨.none, by simp [nD], by simp [noTx], by simp [NestedKey.depth]⟩
  · exact ⟨.num _, by simp only [nD]; rfl, by simp [noTx], by simp [NestedKey.depth]⟩
theorem keyNs_ok {n : Nat} (hk : ∀ k : D, keyN n k = true → ∃ q : NestedKey, k = nD q ∧ noTx q = true ∧ q.depth ≤ n) : ∀ ks : List D, ks.all (keyN n) = true → ∃ qs : List NestedKey, ks = nDs qs ∧ noTxs qs = true ∧ NestedKey.depthAll qs ≤ n
  | [], _ => ⟨[], by simp [nDs], by simp [noTxs], by simp [NestedKey.depthAll]⟩
  | k :: ks, e => by
    rw [List.all_cons, Bool.and_eq_true] at e
    obtain ⟨q, e1, e2, e3⟩ := hk k e.1
    obtain ⟨qs, f1, f2, f3⟩ := keyNs_ok hk ks e.2
    exact ⟨q :: qs, by simp only [nDs]; rw [e1, f1], by simp only [noTxs, e2, f2]; rfl, by simp only [NestedKey.depthAll]; omega⟩
theorem keyN_ok : ∀ (n : Nat) (k : D), keyN n k = true → ∃ q : NestedKey, k = nD q ∧ noTx q = true ∧ q.depth ≤ n
  | 0, k, e => keyN0_ok e
  | n + 1, k, e => by
    cases k <;> simp only [keyN] at e <;> try (cases e)
    · exact ⟨.none, by simp [nD], by simp [noTx], by simp [NestedKey.depth]⟩
    · exact ⟨.num _, by simp only [nD]; rfl, by simp [noTx], by simp [NestedKey.depth]⟩
    · rename_i xs
      obtain ⟨qs, f1, f2, f3⟩ := keyNs_ok (keyN_ok n) xs e
      exact ⟨.tup qs, by simp only [nD]; rw [f1], by simpa [noTx] using f2, by simp only [NestedKey.depth]; omega⟩
theorem keyT_ok {k : D} (e : keyT k = true) (r : Rl K m H k v) : ∃ (q : NestedKey) (b : Addr), v = .ref b ∧ k = nD q ∧ KOk H q b := by
  cases k <;> simp only [keyT] at e <;> try (cases e)
  rename_i xs
  obtain ⟨qs, f1, f2, f3⟩ := keyNs_ok (keyN_ok 7) xs e
  have n2 : noTx (.tup qs) = true := by simpa [noTx] using f2
  have ek : D.tup xs = nD (.tup qs) := by simp only [nD]; rw [f1]
  rw [ek] at r
  have r2 := NkV.of (.tup qs) v n2 r
  have r3 := r2
  simp only [NkV] at r3
  obtain ⟨a, vs, rfl, _⟩ := r3
  exact ⟨.tup qs, a, rfl, ek, r2, n2, by simp only [NestedKey.depth]; omega⟩
theorem RlT.keys : ∀ {kvs : List (D × D)} {L : List (NestedKey × Addr × V)}, RlT K m H kvs L → KsOk H L
  | [], _, r => by
    simp only [RlT] at r
    subst r
    intro x hx
    cases hx
  | (k, d) :: kvs, _, r => by
    simp only [RlT] at r
    obtain ⟨p, b, w, t, rfl, rfl, n, dp, rk, _, r2⟩ := r
    intro x hx
    rcases List.mem_cons.mp hx with rfl | hx
    · exact ⟨NkV.of p _ n rk, n, dp⟩
    · exact RlT.keys r2 x hx
/-- the answers of a look-up -/
def OptR (K : Fg) (m : List Addr) (H : Hp) : Option D → Option V → Prop
  | none, o => o = none
  | some d, o => ∃ v, o = some v ∧ Rl K m H d v
theorem findK_ok (q : Key) : ∀ {kvs : List (D × D)} {L : List (Key × V)}, RlK K m H kvs L → OptR K m H (findV keqK (kD q) kvs) (valV L q)
  | [], _, r => by
    simp only [RlK] at r
    subst r
    exact rfl
  | (k, d) :: kvs, _, r => by
    simp only [RlK] at r
    obtain ⟨p, w, t, rfl, rfl, r1, r2⟩ := r
    simp only [findV]
    rw [keqK_iff]
    by_cases e : p = q
    · rw [decide_eq_true e, if_pos rfl, valV_pos e]
      exact ⟨w, rfl, r1⟩
    · rw [decide_eq_false e, if_neg Bool.false_ne_true, valV_neg e]
      exact findK_ok q r2
theorem findT_ok (q : NestedKey) (hq : noTx q = true) : ∀ {kvs : List (D × D)} {L : List (NestedKey × Addr × V)}, RlT K m H kvs L → OptR K m H (findV keqT (nD q) kvs) (valN L q)
  | [], _, r => by
    simp only [RlT] at r
    subst r
    exact rfl
  | (k, d) :: kvs, _, r => by
    simp only [RlT] at r
    obtain ⟨p, b, w, t, rfl, rfl, n, _, _, r1, r2⟩ := r
    simp only [findV]
    rw [keqT_iff p q n hq]
    unfold valN
    rw [List.find?_cons]
    by_cases e : p = q
    · simp only [e, decide_true, if_true]
      exact ⟨w, rfl, r1⟩
    · simp only [e, decide_false, Bool.false_eq_true, if_false]
      exact findT_ok q hq r2
theorem dget_ok {n : Nat} {k : D} {o : Option D} (e : dget h n k = some o) (R : Hr K m h H) (rn : Rl K m H (.ref n) v) (rk : Rl K m H k u) : ∃ a ov, v = .ref a ∧ DG H a u ov ∧ OptR K m H o ov := by
  simp only [Rl] at rn
  obtain ⟨a, rfl, ha⟩ := rn
  obtain ⟨ob, ho, q⟩ := R.get ha
  unfold dget at e
  rw [ho] at e
  cases ob with
  | lst xs => cases e
  | frz xs => cases e
  | dK kvs =>
    simp only at e
    split at e
    · rename_i hk
      cases e
      obtain ⟨L, e1, r1⟩ := q
      obtain ⟨kq, rfl, rfl⟩ := keyK_ok hk rk
      exact ⟨a, _, rfl, .inl (DGet.k e1), findK_ok kq r1⟩
    · cases e
  | dT kvs =>
    simp only at e
    split at e
    · rename_i hk
      cases e
      obtain ⟨L, e1, r1⟩ := q
      obtain ⟨q, b, rfl, rfl, kq⟩ := keyT_ok hk rk
      exact ⟨a, _, rfl, .inr ⟨L, q, b, e1, r1.keys, rfl, kq, rfl⟩, findT_ok q kq.2.1 r1⟩
    · cases e
theorem OptR.isSome {o : Option D} {ov : Option V} (r : OptR K m H o ov) : ov.isSome = o.isSome := by
  cases o with
  | none => simp only [OptR] at r; subst r; rfl
  | some d => obtain ⟨v, rfl, _⟩ := r; rfl
theorem anyP_ok (p : P) : ∀ ps : List P, ((toPys ps).any fun z => PyData.eqv z (toPy p)) = ps.any fun z => eqv z p
  | [] => rfl
  | q :: ps => by
    show (PyData.eqv (toPy q) (toPy p) || (toPys ps).any _) = _
    rw [List.any_cons, anyP_ok p ps, eqv_ok]
theorem isIn_ok (e : isIn h x y = some b) (R : Hr K m h H) (rx : Rl K m H x v) (ry : Rl K m H y u) :
    (∃ p xs, u = .ref p ∧ (SqL K H p xs ∨ SqT K H p xs) ∧ flatV v = true ∧ xs.all flatV = true ∧ inV v xs = b) ∨
    (∃ d ds, Dp K H v d ∧ Dp K H u (.list ds) ∧ SeqAt.shaped d = true ∧ SeqAt.shaped (.list ds) = true ∧ (ds.any fun z => PyData.eqv z d) = b) ∨
    ∃ a o, u = .ref a ∧ DG H a v o ∧ o.isSome = b := by
  unfold isIn at e
  split at e
  · rename_i xs
    obtain ⟨hc, e⟩ := iff_some e
    rw [Bool.and_eq_true] at hc
    simp only [Rl] at ry
    obtain ⟨a, vs, rfl, q, rs⟩ := ry
    exact .inl ⟨a, vs, rfl, .inr (q.sq), flat_ok hc.1 rx, flats_ok hc.2 rs, by rw [any_ok hc.1 rx hc.2 rs]; exact e⟩
  · rename_i n
    split at e
    · rename_i xs hx
      have hg : getL h n = some xs := by unfold getL; rw [hx]
      obtain ⟨a, vs, rfl, _, q, rs⟩ := getL_ok R hg ry
      split at e
      · rename_i hc
        rw [Bool.and_eq_true] at hc
        cases e
        exact .inl ⟨a, vs, rfl, .inl q, flat_ok hc.1 rx, flats_ok hc.2 rs, any_ok hc.1 rx hc.2 rs⟩
      · obtain ⟨p, e1, e⟩ := bnd e
        obtain ⟨ps, e2, e⟩ := bnd e
        cases e
        obtain ⟨a1, a2, a3⟩ := toP_ok R DP x p v e1 rx
        obtain ⟨b1, b2, b3⟩ := toPs_ok R DP xs ps vs e2 rs
        refine .inr (.inl ⟨_, _, a1, .lst q b1, shaped_of a2 a3 (by decide), ?_, anyP_ok p ps⟩)
        unfold SeqAt.shaped
        rw [Bool.and_eq_true]
        refine ⟨by simp only [PyData.canLay0]; exact b2, ?_⟩
        rw [decide_eq_true_eq]
        simp only [PyData.depth]
        have : DP = 40 := rfl
        omega
    · rename_i xs hx
      have hg : getL h n = some xs := by unfold getL; rw [hx]
      obtain ⟨a, vs, rfl, _, q, rs⟩ := getL_ok R hg ry
      obtain ⟨hc, e⟩ := iff_some e
      rw [Bool.and_eq_true] at hc
      exact .inl ⟨a, vs, rfl, .inl q, flat_ok hc.1 rx, flats_ok hc.2 rs, by rw [any_ok hc.1 rx hc.2 rs]; exact e⟩
    · obtain ⟨o, e1, e⟩ := bnd e
      cases e
      obtain ⟨a, ov, rfl, g, r⟩ := dget_ok e1 R ry rx
      exact .inr (.inr ⟨a, ov, rfl, g, r.isSome⟩)
  · cases e
theorem asInts_ok : ∀ {ds : List D} {is : List Int}, asInts ds = some is → ds = is.map D.int
  | [], _, e => by cases e; rfl
  | d :: ds, _, e => by
    cases d <;> simp [asInts] at e
    obtain ⟨js, e1, e2⟩ := bnd e
    cases e2
    rw [asInts_ok e1]
    rfl
theorem lexI_ok : ∀ is js : List Int, HT.lexLt is js = lexI is js
  | [], [] => rfl
  | [], _ :: _ => rfl
  | _ :: _, [] => rfl
  | i :: is, j :: js => by
    rw [HT.lexLt_cons, lexI_ok is js]
    rfl
theorem cmp_ok {op : COp} (e : cmpop op x y h = some b) (R : Hr K m h H) (rx : Rl K m H x v) (ry : Rl K m H y u) (q : Q (.bl b) H) : rCmp K op v u H Q := by
  cases op with
  | eq =>
    rcases eqD_ok e R rx ry with ⟨h1, h2⟩ | ⟨d, f, h1, h2, h3, h4, h5⟩
    · exact .inl ⟨h1, by rw [h2]; exact q⟩
    · exact .inr ⟨d, f, h1, h2, h3, h4, by rw [h5]; exact q⟩
  | ne =>
    simp only [cmpop] at e
    obtain ⟨c, e1, e⟩ := bnd e
    cases e
    rcases eqD_ok e1 R rx ry with ⟨h1, h2⟩ | ⟨d, f, h1, h2, h3, h4, h5⟩
    · exact .inl ⟨h1, by rw [h2]; exact q⟩
    · exact .inr ⟨d, f, h1, h2, h3, h4, by rw [h5]; exact q⟩
  | lt =>
    simp only [cmpop] at e
    split at e
    · cases e
      simp only [Rl] at rx ry
      exact .inl ⟨_, _, rx, ry, q⟩
    · cases e
      simp only [Rl] at rx ry
      exact .inr (.inl ⟨_, _, rx, ry, q⟩)
    · obtain ⟨is, e1, e⟩ := bnd e
      obtain ⟨js, e2, e⟩ := bnd e
      cases e
      simp only [Rl] at rx ry
      obtain ⟨a, vs, rfl, qa, ra⟩ := rx
      obtain ⟨c, ws, rfl, qc, rc⟩ := ry
      rw [asInts_ok e1] at ra
      rw [asInts_ok e2] at rc
      have h1 := ra.of_ints
      have h2 := rc.of_ints
      subst h1
      subst h2
      exact .inr (.inr ⟨a, c, is, js, rfl, rfl, qa.sq, qc.sq, by rw [lexI_ok]; exact q⟩)
    · cases e
  | le =>
    simp only [cmpop] at e
    split at e
    · cases e
      simp only [Rl] at rx ry
      exact ⟨_, _, rx, ry, q⟩
    · cases e
  | gt =>
    simp only [cmpop] at e
    split at e
    · cases e
      simp only [Rl] at rx ry
      exact ⟨_, _, rx, ry, q⟩
    · cases e
  | ge =>
    simp only [cmpop] at e
    split at e
    · cases e
      simp only [Rl] at rx ry
      exact ⟨_, _, rx, ry, q⟩
    · cases e
  | is =>
    simp only [cmpop] at e
    split at e
    · cases e; simp only [Rl] at rx ry; subst rx; exact .inl ⟨ry, q⟩
    · cases e; simp only [Rl] at rx ry; obtain ⟨a, rfl, _⟩ := rx; exact .inl ⟨ry, q⟩
    · cases e; simp only [Rl] at rx ry; obtain ⟨a, _, rfl, _⟩ := rx; exact .inl ⟨ry, q⟩
    · cases e; simp only [Rl] at rx ry; subst rx; exact .inl ⟨ry, q⟩
    · cases e; simp only [Rl] at rx ry; subst rx; exact .inl ⟨ry, q⟩
    · cases e; simp only [Rl] at rx ry; subst rx; exact .inl ⟨ry, q⟩
    · rename_i a c
      cases e
      simp only [Rl] at rx ry
      refine .inr ⟨a, c, rx, ry, ?_⟩
      have : decide (a = c) = (a == c) := by rw [Bool.eq_iff_iff]; simp
      rw [this]
      exact q
    · cases e
  | isn =>
    simp only [cmpop] at e
    split at e
    · cases e; simp only [Rl] at rx ry; subst rx; exact ⟨ry, q⟩
    · cases e; simp only [Rl] at rx ry; obtain ⟨a, rfl, _⟩ := rx; exact ⟨ry, q⟩
    · cases e; simp only [Rl] at rx ry; obtain ⟨a, _, rfl, _⟩ := rx; exact ⟨ry, q⟩
    · cases e; simp only [Rl] at rx ry; subst rx; exact ⟨ry, q⟩
    · cases e; simp only [Rl] at rx ry; subst rx; exact ⟨ry, q⟩
    · cases e; simp only [Rl] at rx ry; subst rx; exact ⟨ry, q⟩
    · cases e
  | inn =>
    rcases isIn_ok e R rx ry with ⟨p, xs, h1, h2, h3, h4, h5⟩ | ⟨d, ds, h1, h2, h3, h4, h5⟩ | ⟨a, o, h1, h2, h3⟩
    · exact .inl ⟨p, xs, h1, h2, h3, h4, by rw [if_neg Bool.false_ne_true, h5]; exact q⟩
    · exact .inr (.inl ⟨d, ds, h1, h2, h3, h4, by rw [h5]; exact q⟩)
    · exact .inr (.inr ⟨a, o, h1, h2, by rw [if_neg Bool.false_ne_true, h3]; exact q⟩)
  | nin =>
    simp only [cmpop] at e
    obtain ⟨c, e1, e⟩ := bnd e
    cases e
    rcases isIn_ok e1 R rx ry with ⟨p, xs, h1, h2, h3, h4, h5⟩ | ⟨d, ds, h1, h2, h3, h4, h5⟩ | ⟨a, o, h1, h2, h3⟩
    · exact .inl ⟨p, xs, h1, h2, h3, h4, by rw [if_pos rfl, h5]; exact q⟩
    · exact .inr (.inl ⟨d, ds, h1, h2, h3, h4, by rw [h5]; exact q⟩)
    · exact .inr (.inr ⟨a, o, h1, h2, by rw [if_pos rfl, h3]; exact q⟩)
/-! ### truth -/
theorem len_ne (n : Nat) : ((n : Int) != 0) = !(n == 0) := by
  rw [Bool.eq_iff_iff]
  simp
theorem isEmpty_len {α : Type} (xs : List α) : (!xs.isEmpty) = !(xs.length == 0) := by cases xs <;> simp
theorem rls_empty {xs : List D} {vs : List V} (r : Rls K m H xs vs) : vs.isEmpty = xs.isEmpty := by
  have := r.length
  cases xs <;> cases vs <;> simp_all
theorem tru_ok' {d : D} {k : Bool} (e : truth h d = some k) (R : Hr K m h H) (r : Rl K m H d v) : TruV K v H k := by
  cases d with
  | non => cases e; simp only [Rl] at r; subst r; exact rfl
  | bl b => cases e; simp only [Rl] at r; subst r; exact rfl
  | int i => cases e; simp only [Rl] at r; subst r; exact rfl
  | str s =>
    simp only [truth] at e
    split at e
    · rename_i hl
      cases e
      simp only [Rl] at r
      subst r
      refine ⟨by rw [str_len]; exact hl, ?_⟩
      rw [str_len, len_ne, isEmpty_len]
    · cases e
  | tup xs =>
    cases e
    simp only [Rl] at r
    obtain ⟨a, vs, rfl, q, rs⟩ := r
    exact .inr (.inl ⟨vs, q.sq, by rw [rls_empty rs]⟩)
  | ref n =>
    simp only [truth] at e
    simp only [Rl] at r
    obtain ⟨a, rfl, ha⟩ := r
    obtain ⟨o, ho, q⟩ := R.get ha
    rw [ho] at e
    cases o with
    | lst xs => cases e; obtain ⟨vs, e1, rs⟩ := q; exact .inl ⟨vs, SqL.of e1, by rw [rls_empty rs]⟩
    | frz xs => cases e; obtain ⟨ob, vs, e1, rs⟩ := q; exact .inl ⟨vs, .inl (.inr ⟨ob, e1⟩), by rw [rls_empty rs]⟩
    | dK kvs =>
      cases e
      obtain ⟨L, e1, rs⟩ := q
      refine .inr (.inr ⟨L, e1, ?_⟩)
      cases kvs with
      | nil => simp only [RlK] at rs; subst rs; rfl
      | cons p kvs => simp only [RlK] at rs; obtain ⟨_, _, _, rfl, _⟩ := rs; rfl
    | dT kvs => cases e
  | rp p => cases e
  | ptp p => cases e
end
end Ez

/-! E2d: places, slices, built-ins, methods, stores -/
namespace Ez
open PySem PySem.Spec PyProof.Rows L2
/-! ### places -/
def rDg : R2 := fun x y H Q => ∃ a v, x = .ref a ∧ DG H a y (some v) ∧ Q v H
theorem ix_dict {X : Cx} (hu : X.A.units + 9 < cLine) : IxR X rDg := by
  intro value slice pins s σ H x y v u Q I rx ry h hs
  obtain ⟨a, w, rfl, g, q⟩ := h
  cases rx
  exact tail_any (dg_typeIs I g) PySem.F.slot_dict_getitem.lookup (dg_getItem hu I g ry fun w' s3 I3 rw' => ⟨w, H, I3, rw', q⟩) hs
def rSub (K : Fg) : R2 := fun x y H Q => rIx K x y H Q ∨ rDg x y H Q
theorem ix_any {X : Cx} (hu : X.A.units + 9 < cLine) : IxR X (rSub X.K) := ix_seq.or (ix_dict hu)
section
variable {K : Fg} {m : List Addr} {h h' : Hh} {H : Hp} {Q : VK} {x y d : D} {v u : V}
theorem rls_at {xs : List D} {vs : List V} {i : Int} (e : ((Ez.ixN xs.length i).bind fun j => xs[j]?) = some d) (r : Rls K m H xs vs) : ∃ w, atI vs i = some w ∧ Rl K m H d w := by
  obtain ⟨j, e1, e2⟩ := bnd e
  obtain ⟨w, e3, r3⟩ := r.get e2
  refine ⟨w, ?_, r3⟩
  unfold atI
  rw [r.length]
  show (Ez.ixN xs.length i).bind _ = _
  rw [e1]
  exact e3
theorem sub_ok (e : subscr x y h = some d) (R : Hr K m h H) (rx : Rl K m H x v) (ry : Rl K m H y u) (P : Post K m h d H Q) : rSub K v u H Q := by
  have inL : ∀ {n : Nat} {xs : List D} {i : Int}, getL h n = some xs → x = .ref n → y = .int i → ((Ez.ixN xs.length i).bind fun j => xs[j]?) = some d → rSub K v u H Q := fun {n xs i} hg ex ey e0 => by
    subst ex
    subst ey
    obtain ⟨a, vs, rfl, _, q, rs⟩ := getL_ok R hg rx
    simp only [Rl] at ry
    obtain ⟨w, e1, r1⟩ := rls_at e0 rs
    exact .inl (.inl ⟨a, vs, i, w, rfl, ry, q, e1, P.here R r1⟩)
  cases x with
  | tup xs =>
    cases y with
    | int i =>
      simp only [subscr] at e
      simp only [Rl] at rx ry
      obtain ⟨a, vs, rfl, q, rs⟩ := rx
      obtain ⟨w, e1, r1⟩ := rls_at e rs
      exact .inl (.inr (.inl ⟨a, vs, i, w, rfl, ry, q.sq, e1, P.here R r1⟩))
    | _ => simp [subscr] at e
  | str s =>
    cases y with
    | int i =>
      simp only [subscr] at e
      split at e
      · rename_i hl
        obtain ⟨j, e1, e⟩ := bnd e
        obtain ⟨c, e2, e⟩ := bnd e
        cases e
        simp only [Rl] at rx ry
        subst rx
        refine .inl (.inr (.inr ⟨_, i, c, rfl, ry, by rw [str_len]; exact hl, ?_, P.here R rfl⟩))
        show ((Ez.ixN s.length i).bind fun j => s[j]?) = some c
        rw [e1]
        exact e2
      · cases e
    | _ => simp [subscr] at e
  | ref n =>
    simp only [subscr] at e
    split at e
    · rename_i xs hx
      have hg : getL h n = some xs := by unfold getL; rw [hx]
      split at e
      · exact inL hg rfl rfl e
      · cases e
    · rename_i xs hx
      have hg : getL h n = some xs := by unfold getL; rw [hx]
      split at e
      · exact inL hg rfl rfl e
      · cases e
    · obtain ⟨o, e1, e⟩ := bnd e
      subst e
      obtain ⟨a, ov, rfl, g, w, rfl, rw'⟩ := dget_ok e1 R rx ry
      exact .inr ⟨a, w, rfl, g, P.here R rw'⟩
  | _ => simp [subscr] at e
/-! ### slices -/
/-- a slice of a tuple: the whole of it is the tuple itself -/
def rSlF (K : Fg) : V → Option Int → Option Int → Hp → VK → Prop := fun x lo hi H Q => ∃ a xs, x = .ref a ∧ SqT K H a xs ∧
  if HT.sIx xs.length 0 lo = 0 ∧ HT.sIx xs.length xs.length hi = xs.length then Q (.ref a) H else NewT H (cutV xs lo hi) Q
theorem sl_tupF {X : Cx} : SlR X (rSlF X.K) := by
  intro pins s σ H x v vl vu lo hi sl Q I rx hs pl pu h
  obtain ⟨a, xs, rfl, hx, q⟩ := h
  cases rx
  obtain ⟨its, r, ht, hz⟩ := I.tuple hx
  have hlen : its.toArray.size = xs.length := by rw [List.size_toArray]; exact r.length.symm
  refine ⟨"tuple", _, PyProof.Rows.slot_tuple_getitem.lookup, ht.typeIs, ?_⟩
  split at q
  · rename_i hw
    exact getItem_tuple_whole ht hs pl pu (by rw [hlen]; exact hw) ⟨.ref a, H, I, rfl, q⟩
  · rename_i hw
    refine HT.getItem_tuple_cut ht hs pl pu (by rw [hlen]; exact hw) ?_ (by rw [hlen]; exact hz)
    rw [hlen]
    exact laidT I (Nat.le_trans (cutV_length xs lo hi) hz) ((r.drop _).take _) q
def rSlice (K : Fg) : V → Option Int → Option Int → Hp → VK → Prop := fun x lo hi H Q => rSlF K x lo hi H Q ∨ rSlL K x lo hi H Q ∨ rSlS x lo hi H Q
theorem sl_any {X : Cx} : SlR X (rSlice X.K) := sl_tupF.or (sl_list.or sl_str)
theorem sIx_eq (n k : Nat) (o : Option Int) : HT.sIx n k o = Ez.sIx n k o := by cases o <;> rfl
theorem cut_rls {xs : List D} {vs : List V} (r : Rls K m H xs vs) (lo hi : Option Int) : Rls K m H (cut xs lo hi) (cutV vs lo hi) := by
  unfold cut cutV
  rw [r.length, sIx_eq, sIx_eq]
  exact (r.drop _).take _
theorem slice_ok {lo hi : Option Int} (e : slice x lo hi h = some (d, h')) (R : Hr K m h H) (rx : Rl K m H x v) (P : Post K m h' d H Q) : rSlice K v lo hi H Q := by
  unfold slice at e
  split at e
  · rename_i xs
    cases e
    simp only [Rl] at rx
    obtain ⟨a, vs, rfl, q, rs⟩ := rx
    refine .inl ⟨a, vs, rfl, q.sq, ?_⟩
    split
    case isFalse => exact P.newT R (cut_rls rs lo hi)
    rename_i z
    have : cut xs lo hi = xs := by
      unfold cut
      rw [← rs.length, ← sIx_eq, ← sIx_eq, z.1, z.2, List.drop_zero, Nat.sub_zero, rs.length, List.take_length]
    rw [this] at P
    exact P.here R ⟨a, vs, rfl, q, rs⟩
  · rename_i s
    split at e
    · rename_i hl
      cases e
      simp only [Rl] at rx
      subst rx
      refine .inr (.inr ⟨_, rfl, by rw [str_len]; exact hl, ?_⟩)
      have : cutS ⟨s.toArray⟩ lo hi = ⟨(cut s lo hi).toArray⟩ := by
        unfold cutS cut
        rw [str_len, sIx_eq, sIx_eq]
      rw [this]
      exact P.here R rfl
    · cases e
  · obtain ⟨xs, e1, e⟩ := bnd e
    obtain ⟨rfl, rfl⟩ := alloc_some e
    obtain ⟨a, vs, rfl, _, q, rs⟩ := getL_ok R e1 rx
    exact .inr (.inl ⟨a, vs, rfl, q, fun p hp => P.newL R hp (cut_rls rs lo hi)⟩)
  · cases e
end
/-! ### built-ins -/
theorem CallR.or {X : Cx} {f : Value} {r r' : List V → Hp → VK → Prop} (h : CallR X f r) (h' : CallR X f r') : CallR X f (fun xs H Q => r xs H Q ∨ r' xs H Q) := by
  intro pins s σ H xs us Q I rx q
  rcases q with q | q
  · exact h pins s σ H xs us Q I rx q
  · exact h' pins s σ H xs us Q I rx q
section
variable {X : Cx}
/-- repr of data -/
def rRepr (K : Fg) : List V → Hp → VK → Prop := fun xs H Q => ∃ x p, xs = [x] ∧ Dp K H x (toPy p) ∧ PyData.canLay0 (toPy p) = true ∧ (toPy p).depth ≤ DP ∧ PyData.showable (toPy p) = true ∧ (toPy p).shown.length ≤ sizeLine ∧ Q (.str (toPy p).shown) H
theorem py_nodict : ∀ d : PyData, d.canLay0 = true → d.hasDict = false := by
  intro d
  suffices hh : ∀ n : Nat, ∀ d : PyData, sizeOf d ≤ n → d.canLay0 = true → d.hasDict = false from hh _ d (Nat.le_refl _)
  intro n
  induction n with
  | zero => intro d hd; cases d <;> simp at hd
  | succ n ih =>
    intro d hd hc
    have all : ∀ xs : List PyData, sizeOf xs ≤ n → PyData.canLayAll0 xs = true → PyData.hasDictAll xs = false := by
      intro xs
      induction xs with
      | nil => intro _ _; simp [PyData.hasDictAll]
      | cons x xs ihx =>
        intro hz hcx
        simp only [PyData.canLayAll0, Bool.and_eq_true] at hcx
        simp only [List.cons.sizeOf_spec] at hz
        simp only [PyData.hasDictAll, ih x (by omega) hcx.1, ihx (by omega) hcx.2, Bool.or_self]
    cases d with
    | list xs =>
      simp only [PyData.hasDict]
      simp only [PyData.canLay0] at hc
      simp only [PyData.list.sizeOf_spec] at hd
      exact all xs (by omega) hc
    | tuple xs =>
      simp only [PyData.hasDict]
      simp only [PyData.canLay0] at hc
      simp only [PyData.tuple.sizeOf_spec] at hd
      exact all xs (by omega) hc
    | dict kvs => simp [PyData.canLay0] at hc
    | _ => simp [PyData.hasDict]
theorem cr_repr (hg : X.A.guards = some []) (hu : X.A.units + 64 < cLine) : CallR X (.builtin "repr") (rRepr X.K) := by
  intro pins s σ H xs us Q I r h
  obtain ⟨x, p, rfl, hd, hc, hp, hs, hz, q⟩ := h
  obtain ⟨u, rfl, ru⟩ := Vals.one r
  have fin : ∀ (s' : Shared) (t : Tok), Inv X pins σ H s' → EP X pins σ Q (.str (toPy p).shown t) s' := fun s' t I' => ⟨.str _, H, I', ⟨t, rfl⟩, q⟩
  cases p with
  | non =>
    simp only [toPy] at *
    cases hd
    cases ru
    simp only [PyData.shown] at fin
    exact PySem.P.repr_of_none (fin _ _ (I.tok _))
  | bl b =>
    simp only [toPy] at *
    cases hd
    cases ru
    simp only [PyData.shown] at fin
    refine PySem.P.repr_of_bool ?_
    have := fin { s with toks := s.toks + 1 } s.toks (I.tok _)
    cases b <;> exact this
  | int i =>
    simp only [toPy] at *
    cases hd
    obtain ⟨t, rfl⟩ := ru
    simp only [PyData.shown] at fin
    simp only [PyData.showable, decide_eq_true_eq] at hs
    exact PySem.P.repr_of_int hs (fin _ _ (I.tok _))
  | str s =>
    simp only [toPy] at *
    cases hd
    obtain ⟨t, rfl⟩ := ru
    simp only [PyData.shown] at fin hz
    exact PySem.P.repr_of_str (fin _ _ (I.tok _)) hz
  | tup ps =>
    obtain ⟨as, rd⟩ := Dp.reads I _ x u hd ru
    simp only [toPy] at hd
    cases hd with
    | tup hq ha =>
      cases ru
      refine repr_of_reads' rd hs (fun z => by rw [py_nodict _ hc] at z; cases z) hg ?_ (fun _ _ e => e) (fun h' t tk hk => fin _ t (I.kept (t' := tk) hk)) hz
      have : DP = 40 := rfl
      omega
  | lst ps =>
    obtain ⟨as, rd⟩ := Dp.reads I _ x u hd ru
    simp only [toPy] at hd
    cases hd with
    | lst hq ha =>
      cases ru
      refine repr_of_reads' rd hs (fun z => by rw [py_nodict _ hc] at z; cases z) hg ?_ (fun _ _ e => e) (fun h' t tk hk => fin _ t (I.kept (t' := tk) hk)) hz
      have : DP = 40 := rfl
      omega
end
end Ez

/-! E2e: built-ins by values -/
namespace Ez
open PySem PySem.Spec PyProof.Rows L2
/-! ### sorting: plain -/
theorem insI_perm (x : Int) : ∀ l : List Int, (insI x l).Perm (x :: l)
  | [] => .refl _
  | y :: r => by
    unfold insI
    split
    · exact .refl _
    · exact ((insI_perm x r).cons y).trans (.swap x y r)
theorem sortI_perm : ∀ l : List Int, (sortI l).Perm l
  | [] => .refl _
  | x :: r => (insI_perm x (sortI r)).trans ((sortI_perm r).cons x)
theorem insI_sorted (x : Int) : ∀ l : List Int, l.Pairwise (· ≤ ·) → (insI x l).Pairwise (· ≤ ·)
  | [], _ => by simp [insI]
  | y :: r, h => by
    unfold insI
    rw [List.pairwise_cons] at h
    split
    · rename_i hxy
      rw [List.pairwise_cons]
      refine ⟨fun z hz => ?_, List.pairwise_cons.mpr h⟩
      rcases List.mem_cons.mp hz with rfl | hz
      · exact hxy
      · exact Int.le_trans hxy (h.1 z hz)
    · rename_i hxy
      rw [List.pairwise_cons]
      refine ⟨fun z hz => ?_, insI_sorted x r h.2⟩
      rcases List.mem_cons.mp ((insI_perm x r).mem_iff.mp hz) with rfl | hz
      · omega
      · exact h.1 z hz
theorem sortI_sorted : ∀ l : List Int, (sortI l).Pairwise (· ≤ ·)
  | [] => .nil
  | x :: r => insI_sorted x _ (sortI_sorted r)
theorem sorted_unique : ∀ {a b : List Int}, a.Perm b → a.Pairwise (· ≤ ·) → b.Pairwise (· ≤ ·) → a = b
  | [], b, p, _, _ => by rw [List.nil_perm.mp p]
  | x :: a, [], p, _, _ => by simpa using p.length_eq
  | x :: a, y :: b, p, ha, hb => by
    rw [List.pairwise_cons] at ha hb
    have e : x = y := by
      have h1 : x ∈ y :: b := p.mem_iff.mp List.mem_cons_self
      have h2 : y ∈ x :: a := p.mem_iff.mpr List.mem_cons_self
      have l1 : y ≤ x := by
        rcases List.mem_cons.mp h1 with z | z
        · omega
        · exact hb.1 x z
      have l2 : x ≤ y := by
        rcases List.mem_cons.mp h2 with z | z
        · omega
        · exact ha.1 y z
      omega
    subst e
    rw [sorted_unique (List.perm_cons x |>.mp p) ha.2 hb.2]
/-! ### numbers of fewer than thirteen figures -/
theorem digits_short : ∀ (k f n : Nat) (acc : List Char), n < 10 ^ k → 1 ≤ k → (Nat.toDigitsCore 10 f n acc).length ≤ acc.length + k
  | _, 0, n, acc, _, h1 => by simp [Nat.toDigitsCore]
  | 0, f + 1, n, acc, _, h1 => by omega
  | k + 1, f + 1, n, acc, h, _ => by
    unfold Nat.toDigitsCore
    dsimp only
    split
    · simp only [List.length_cons]; omega
    · rename_i hn
      have hk : 1 ≤ k := by
        cases k with
        | zero =>
          have : n < 10 := by simpa using h
          omega
        | succ k => omega
      have h2 : n / 10 < 10 ^ k := by
        rw [Nat.div_lt_iff_lt_mul (by decide)]
        rw [Nat.pow_succ] at h
        exact h
      have := digits_short k f (n / 10) (Nat.digitChar (n % 10) :: acc) h2 hk
      simp only [List.length_cons] at this
      omega
theorem ofString_len (x : String) : (Str.ofString x).length = x.toList.length := by
  rw [Str.ofString_eq_toList]
  show (x.toList.map Char.toNat).toArray.size = _
  simp
theorem int_short {i : Int} (h : i.natAbs < 1000000000000) : (Str.ofString (toString i)).length ≤ 13 := by
  rw [ofString_len]
  have nat : ∀ n : Nat, n < 1000000000000 → (toString n).toList.length ≤ 12 := fun n hn => by
    have := digits_short 12 (n + 1) n [] hn (by decide)
    have e : (toString n).toList = Nat.toDigits 10 n := by
      show (Nat.repr n).toList = _
      simp [Nat.repr]
    rw [e]
    unfold Nat.toDigits
    simpa using this
  cases i with
  | ofNat n =>
    have := nat n h
    show (toString n).toList.length ≤ 13
    omega
  | negSucc n =>
    have := nat (n + 1) h
    show ("-" ++ toString (n + 1)).toList.length ≤ 13
    rw [String.toList_append, List.length_append]
    have : "-".toList.length = 1 := rfl
    omega
/-! ### the built-ins -/
def biN : Bi → Str
  | .len => "len" | .all => "all" | .any => "any" | .int1 => "int" | .list1 => "list" | .tuple1 => "tuple" | .max1 => "max" | .min1 => "min" | .max2 => "max" | .min2 => "min"
  | .sum1 => "sum" | .sorted1 => "sorted" | .repr1 => "repr"
def biV : Bi → Value
  | .len => .builtin "len" | .all => .builtin "all" | .any => .builtin "any" | .int1 => .type "int" | .list1 => .type "list" | .tuple1 => .type "tuple" | .max1 => .builtin "max" | .min1 => .builtin "min"
  | .max2 => .builtin "max" | .min2 => .builtin "min" | .sum1 => .builtin "sum" | .sorted1 => .builtin "sorted" | .repr1 => .builtin "repr"
theorem biV_boot (b : Bi) : bootBuiltins (biN b) = some (biV b) := by cases b <;> decide +kernel
abbrev RC := List V → Hp → VK → Prop
def rLen1 (K : Fg) : RC := fun xs H Q => ∃ x n, xs = [x] ∧ LenV K x H n ∧ Q (.int n) H
def rLen2 : RC := fun xs H Q => ∃ a kvs, xs = [V.ref a] ∧ H a = some (.dK kvs) ∧ Q (.int kvs.length) H
def rInt1 : RC := fun xs H Q => (∃ i, xs = [.int i] ∧ Q (.int i) H) ∨ ∃ k, xs = [.bl k] ∧ Q (.int (if k then 1 else 0)) H
def rListOf (K : Fg) : RC := fun xs H Q => ∃ p ys, xs = [.ref p] ∧ (SqL K H p ys ∨ SqT K H p ys) ∧ ∀ l, H l = none → Q (.ref l) (upd H l (.lst ys))
def rTupleOf (K : Fg) : RC := fun xs H Q => ∃ p ys, xs = [.ref p] ∧ ((SqL K H p ys ∧ NewT H ys Q) ∨ (SqT K H p ys ∧ Q (.ref p) H))
theorem call_tupleF {X : Cx} : CallR X (.type "tuple") (rTupleOf X.K) := by
  intro pins s σ H xs us Q I r h
  obtain ⟨p, ys, rfl, h⟩ := h
  obtain ⟨u, rfl, rx⟩ := Vals.one r
  cases rx
  rcases h with ⟨hq, q⟩ | ⟨hq, q⟩
  · obtain ⟨its, r', pl, hz⟩ := I.list hq
    have hlen := r'.length
    refine call_tuple_list pl.isList (fun h' kp => ?_) (by rw [List.size_toArray, ← hlen]; exact hz)
    have I1 : Inv X pins σ H { s with heap := h' } := I.kept (t' := s.toks) kp
    exact laidT I1 hz r' q (t' := s.toks)
  · obtain ⟨its, r', pl, hz⟩ := I.tuple hq
    exact call_tuple_same pl ⟨.ref p, H, I, rfl, q⟩
def rMax2 : RC := fun xs H Q => ∃ i j, xs = [.int i, .int j] ∧ Q (.int (if j > i then j else i)) H
def rMin2 : RC := fun xs H Q => ∃ i j, xs = [.int i, .int j] ∧ Q (.int (if j < i then j else i)) H
def rSrtT (K : Fg) : RC := fun vs H Q => ∃ d, 1 ≤ d ∧ rSortU K d 1000000 vs H Q
theorem cr_srtT {X : Cx} : CallR X (.builtin "sorted") (rSrtT X.K) := by
  intro pins s σ H xs us Q I r h
  obtain ⟨d, hd, q⟩ := h
  exact cr_sortT hd pins s σ H xs us Q I r q
def rBi (K : Fg) : Bi → RC
  | .len => fun xs H Q => rLen1 K xs H Q ∨ rLen2 xs H Q
  | .all => rAll K
  | .any => rAny K
  | .int1 => rInt1
  | .list1 => rListOf K
  | .tuple1 => rTupleOf K
  | .max1 => rMax K
  | .min1 => rMin K
  | .max2 => rMax2
  | .min2 => rMin2
  | .sum1 => rSum K
  | .sorted1 => fun xs H Q => rSortedI K xs H Q ∨ rSrtT K xs H Q
  | .repr1 => rRepr K
theorem cr_bi {X : Cx} (hc : X.calm = true) (hg : X.A.guards = some []) (hu : X.A.units + 64 < cLine) (b : Bi) : CallR X (biV b) (rBi X.K b) := by
  cases b with
  | len => exact call_len.or call_lenD
  | all => exact cr_all hc
  | any => exact cr_any hc
  | int1 => exact call_int1
  | list1 => exact call_list_of
  | tuple1 => exact call_tupleF
  | max1 => exact cr_max hc
  | min1 => exact cr_min hc
  | max2 => exact call_max2 hc
  | min2 => exact call_min2 hc
  | sum1 => exact cr_sum hc
  | sorted1 => exact cr_sortedI.or cr_srtT
  | repr1 => exact cr_repr hg hu
/-! ### max, min -/
theorem maxI_ok : ∀ (l : List Int) (m : Int), m ≤ maxI m l ∧ (∀ x ∈ l, x ≤ maxI m l) ∧ (maxI m l = m ∨ maxI m l ∈ l)
  | [], m => ⟨Int.le_refl _, by simp, .inl rfl⟩
  | y :: r, m => by
    obtain ⟨h1, h2, h3⟩ := maxI_ok r (if m < y then y else m)
    have g1 : m ≤ (if m < y then y else m) := by split <;> omega
    have g2 : y ≤ (if m < y then y else m) := by split <;> omega
    simp only [maxI]
    refine ⟨by omega, fun x hx => ?_, ?_⟩
    · rcases List.mem_cons.mp hx with rfl | hx
      · omega
      · exact h2 x hx
    · rcases h3 with h3 | h3
      · rw [h3]
        split
        · exact .inr List.mem_cons_self
        · exact .inl rfl
      · exact .inr (List.mem_cons_of_mem _ h3)
theorem minI_ok : ∀ (l : List Int) (m : Int), minI m l ≤ m ∧ (∀ x ∈ l, minI m l ≤ x) ∧ (minI m l = m ∨ minI m l ∈ l)
  | [], m => ⟨Int.le_refl _, by simp, .inl rfl⟩
  | y :: r, m => by
    obtain ⟨h1, h2, h3⟩ := minI_ok r (if y < m then y else m)
    have g1 : (if y < m then y else m) ≤ m := by split <;> omega
    have g2 : (if y < m then y else m) ≤ y := by split <;> omega
    simp only [minI]
    refine ⟨by omega, fun x hx => ?_, ?_⟩
    · rcases List.mem_cons.mp hx with rfl | hx
      · omega
      · exact h2 x hx
    · rcases h3 with h3 | h3
      · rw [h3]
        split
        · exact .inr List.mem_cons_self
        · exact .inl rfl
      · exact .inr (List.mem_cons_of_mem _ h3)
section
variable {K : Fg} {m : List Addr} {h h' : Hh} {H : Hp} {Q : VK} {d : D} {v : V}
theorem asBools_ok : ∀ {ds : List D} {bs : List Bool} {vs : List V}, asBools ds = some bs → Rls K m H ds vs → vs = bs.map V.bl
  | [], _, _, e, r => by cases e; exact r
  | x :: ds, _, _, e, r => by
    cases x <;> simp [asBools] at e
    obtain ⟨cs, e1, e2⟩ := bnd e
    cases e2
    simp only [Rls] at r
    obtain ⟨w, t, rfl, r1, r2⟩ := r
    simp only [Rl] at r1
    subst r1
    rw [asBools_ok e1 r2]
    rfl
theorem Rls.one' {x : D} {vs : List V} (r : Rls K m H [x] vs) : ∃ v, vs = [v] ∧ Rl K m H x v := by
  simp only [Rls] at r
  obtain ⟨v, t, rfl, r1, rfl⟩ := r
  exact ⟨v, rfl, r1⟩
theorem Rls.two' {x y : D} {vs : List V} (r : Rls K m H [x, y] vs) : ∃ v u, vs = [v, u] ∧ Rl K m H x v ∧ Rl K m H y u := by
  simp only [Rls] at r
  obtain ⟨v, t, rfl, r1, u, t2, rfl, r2, rfl⟩ := r
  exact ⟨v, u, rfl, r1, r2⟩
theorem RlK.length : ∀ {kvs : List (D × D)} {L : List (Key × V)}, RlK K m H kvs L → L.length = kvs.length
  | [], _, r => by simp only [RlK] at r; subst r; rfl
  | (k, x) :: kvs, _, r => by
    simp only [RlK] at r
    obtain ⟨_, _, t, rfl, _, _, r2⟩ := r
    simp [RlK.length r2]
/-- tuples of ints -/
theorem asTups_ok : ∀ {ds : List D} {ts : List (List Int)}, mapO asTup ds = some ts → ds = ts.map fun u => .tup (ofInts u)
  | [], _, e => by cases e; rfl
  | x :: ds, _, e => by
    simp only [mapO] at e
    obtain ⟨y, e1, e⟩ := bnd e
    obtain ⟨ys, e2, e⟩ := bnd e
    cases e
    cases x <;> simp [asTup] at e1
    rw [asTups_ok e2, asInts_ok e1]
    rfl
theorem len1_ok {x : D} {vs : List V} {n : Nat} (r : Rls K m H [x] vs) (R : Hr K m h H) (P : Post K m h (.int n) H Q) (hn : ∀ v, Rl K m H x v → LenV K v H n) : rBi K .len vs H Q := by
  obtain ⟨v, rfl, rv⟩ := r.one'
  exact .inl ⟨v, n, rfl, hn v rv, P.here R rfl⟩
theorem showP_ok : ∀ p : P, showP p = true → PyData.showable (toPy p) = true ∧ PyData.intsShort 13 (toPy p) = true := by
  intro p
  suffices hh : ∀ n : Nat, ∀ p : P, sizeOf p ≤ n → showP p = true → PyData.showable (toPy p) = true ∧ PyData.intsShort 13 (toPy p) = true from hh _ p (Nat.le_refl _)
  intro n
  induction n with
  | zero => intro p hp; cases p <;> simp at hp
  | succ n ih =>
    have all : ∀ xs : List P, sizeOf xs ≤ n → showPs xs = true → PyData.showableAll (toPys xs) = true ∧ PyData.intsShortAll 13 (toPys xs) = true := by
      intro xs
      induction xs with
      | nil => intro _ _; simp [toPys, PyData.showableAll, PyData.intsShortAll]
      | cons x xs ihx =>
        intro hz hcx
        simp only [showPs, Bool.and_eq_true] at hcx
        simp only [List.cons.sizeOf_spec] at hz
        obtain ⟨a1, a2⟩ := ih x (by omega) hcx.1
        obtain ⟨b1, b2⟩ := ihx (by omega) hcx.2
        simp [toPys, PyData.showableAll, PyData.intsShortAll, a1, a2, b1, b2]
    intro p hp hs
    cases p with
    | int i =>
      simp only [showP, decide_eq_true_eq] at hs
      refine ⟨?_, ?_⟩
      · simp only [toPy, PyData.showable, decide_eq_true_eq]
        by_cases h0 : i.natAbs = 0
        · rw [h0]; decide
        · rw [Nat.log2_lt h0]
          exact Nat.lt_of_lt_of_le hs (Nat.le_trans (by decide : 1000000000000 ≤ 2 ^ 40) (Nat.pow_le_pow_right (by decide) (by decide)))
      · simp only [toPy, PyData.intsShort, decide_eq_true_eq, PyData.shown]
        exact decide_eq_true (int_short hs)
    | tup xs =>
      simp only [showP] at hs
      simp only [P.tup.sizeOf_spec] at hp
      obtain ⟨a1, a2⟩ := all xs (by omega) hs
      exact ⟨by simpa [toPy, PyData.showable] using a1, by simpa [toPy, PyData.intsShort] using a2⟩
    | lst xs =>
      simp only [showP] at hs
      simp only [P.lst.sizeOf_spec] at hp
      obtain ⟨a1, a2⟩ := all xs (by omega) hs
      exact ⟨by simpa [toPy, PyData.showable] using a1, by simpa [toPy, PyData.intsShort] using a2⟩
    | _ => exact ⟨by simp [toPy, PyData.showable], by simp [toPy, PyData.intsShort]⟩
theorem wtP_ok : ∀ p : P, (toPy p).weight = wtP p := by
  intro p
  suffices hh : ∀ n : Nat, ∀ p : P, sizeOf p ≤ n → (toPy p).weight = wtP p from hh _ p (Nat.le_refl _)
  intro n
  induction n with
  | zero => intro p hp; cases p <;> simp at hp
  | succ n ih =>
    have all : ∀ xs : List P, sizeOf xs ≤ n → PyData.weightAll (toPys xs) = wtPs xs := by
      intro xs
      induction xs with
      | nil => intro _; simp [toPys, PyData.weightAll, wtPs]
      | cons x xs ihx =>
        intro hz
        simp only [List.cons.sizeOf_spec] at hz
        simp only [toPys, PyData.weightAll, wtPs, ih x (by omega), ihx (by omega)]
    intro p hp
    cases p with
    | tup xs =>
      simp only [P.tup.sizeOf_spec] at hp
      simp only [toPy, PyData.weight, wtP, all xs (by omega)]
    | lst xs =>
      simp only [P.lst.sizeOf_spec] at hp
      simp only [toPy, PyData.weight, wtP, all xs (by omega)]
    | str s => simp [toPy, PyData.weight, wtP]
    | _ => simp [toPy, PyData.weight, wtP]
end
end Ez

/-! E2f: built-ins, isinstance, methods, stores by values -/
namespace Ez
open PySem PySem.Spec PyProof.Rows L2
/-! ### tuples of ints sorted -/
theorem insT_perm (x : List Int) : ∀ l : List (List Int), (insT x l).Perm (x :: l)
  | [] => .refl _
  | y :: r => by
    unfold insT
    split
    · exact ((insT_perm x r).cons y).trans (.swap x y r)
    · exact .refl _
theorem sortT_perm : ∀ l : List (List Int), (sortT l).Perm l
  | [] => .refl _
  | x :: r => (insT_perm x (sortT r)).trans ((sortT_perm r).cons x)
theorem lexI_code {B : Int} : ∀ {a b : List Int}, a.length = b.length → TS.Bd B a → TS.Bd B b → lexI a b = decide (TS.code B a < TS.code B b)
  | [], [], _, _, _ => by simp [lexI]
  | [], _ :: _, h, _, _ => by simp at h
  | _ :: _, [], h, _, _ => by simp at h
  | x :: a, y :: b, h, h1, h2 => by
    have hl : a.length = b.length := by simpa using h
    simp only [lexI]
    by_cases e : x = y
    · subst e
      rw [if_pos rfl, lexI_code hl h1.tail h2.tail]
      exact decide_eq_decide.mpr (TS.code_same hl).symm
    · rw [if_neg e]
      by_cases l : x < y
      · rw [decide_eq_true l, decide_eq_true (TS.code_lt hl h1.tail h2.tail l)]
      · have l' : y < x := by omega
        have := TS.code_lt (B := B) hl.symm h2.tail h1.tail l'
        rw [decide_eq_false l, decide_eq_false (by omega)]
theorem code_inj {B : Int} : ∀ {a b : List Int}, a.length = b.length → TS.Bd B a → TS.Bd B b → TS.code B a = TS.code B b → a = b
  | [], [], _, _, _, _ => rfl
  | [], _ :: _, h, _, _, _ => by simp at h
  | _ :: _, [], h, _, _, _ => by simp at h
  | x :: a, y :: b, h, h1, h2, e => by
    have hl : a.length = b.length := by simpa using h
    have exy : x = y := by
      rcases Int.lt_trichotomy x y with l | l | l
      · have := TS.code_lt (B := B) hl h1.tail h2.tail l
        omega
      · exact l
      · have := TS.code_lt (B := B) hl.symm h2.tail h1.tail l
        omega
    subst exy
    have e2 : TS.code B a = TS.code B b := by
      have e' : x * B ^ a.length + TS.code B a = x * B ^ b.length + TS.code B b := e
      rw [hl] at e'
      omega
    rw [code_inj hl h1.tail h2.tail e2]
/-- tuples of n ints below a bound -/
def AllT (n : Nat) (l : List (List Int)) : Prop := ∀ t ∈ l, t.length = n ∧ TS.Bd 1000000 t
theorem sameLen_ok {n : Nat} {l : List (List Int)} (h : sameLen n l = true) : AllT n l := by
  intro t ht
  unfold sameLen at h
  have := List.all_eq_true.mp h t ht
  simp only [Bool.and_eq_true, beq_iff_eq, List.all_eq_true, decide_eq_true_eq] at this
  exact ⟨this.1, fun m hm => this.2 m hm⟩
theorem insT_sorted {n : Nat} (x : List Int) (hx : x.length = n ∧ TS.Bd 1000000 x) : ∀ l : List (List Int), AllT n l → l.Pairwise (fun a b => TS.code 1000000 a ≤ TS.code 1000000 b) → (insT x l).Pairwise (fun a b => TS.code 1000000 a ≤ TS.code 1000000 b)
  | [], _, _ => by simp [insT]
  | y :: r, ha, h => by
    have hy := ha y List.mem_cons_self
    unfold insT
    rw [lexI_code (B := 1000000) (by rw [hy.1, hx.1]) hy.2 hx.2]
    rw [List.pairwise_cons] at h
    split
    · rename_i hlt
      rw [decide_eq_true_eq] at hlt
      rw [List.pairwise_cons]
      refine ⟨fun z hz => ?_, insT_sorted x hx r (fun t ht => ha t (List.mem_cons_of_mem _ ht)) h.2⟩
      rcases List.mem_cons.mp ((insT_perm x r).mem_iff.mp hz) with rfl | hz
      · omega
      · exact h.1 z hz
    · rename_i hlt
      rw [decide_eq_true_eq] at hlt
      rw [List.pairwise_cons]
      refine ⟨fun z hz => ?_, List.pairwise_cons.mpr h⟩
      rcases List.mem_cons.mp hz with rfl | hz
      · omega
      · have := h.1 z hz
        omega
theorem sortT_sorted {n : Nat} : ∀ l : List (List Int), AllT n l → (sortT l).Pairwise (fun a b => TS.code 1000000 a ≤ TS.code 1000000 b)
  | [], _ => .nil
  | x :: r, ha => insT_sorted x (ha x List.mem_cons_self) _ (fun t ht => ha t (List.mem_cons_of_mem _ ((sortT_perm r).mem_iff.mp ht))) (sortT_sorted r fun t ht => ha t (List.mem_cons_of_mem _ ht))
theorem sortT_unique {n : Nat} {a b : List (List Int)} (ha : AllT n a) (hb : AllT n b) (p : a.Perm b) (sa : a.Pairwise (fun x y => TS.code 1000000 x ≤ TS.code 1000000 y)) (sb : b.Pairwise (fun x y => TS.code 1000000 x ≤ TS.code 1000000 y)) : a = b :=
  p.eq_of_pairwise (fun x y hx hy h1 h2 => code_inj ((ha x hx).1.trans (hb y hy).1.symm) (ha x hx).2 (hb y hy).2 (Int.le_antisymm h1 h2)) sa sb
section
variable {K : Fg} {m : List Addr} {h h' : Hh} {H : Hp} {Q : VK} {d : D} {v : V}
theorem Rl.tupI {u : List Int} (r : Rl K m H (.tup (ofInts u)) v) : TupI K H v u := by
  simp only [Rl] at r
  obtain ⟨a, vs, rfl, q, rs⟩ := r
  rw [show vs = u.map V.int from Rls.of_ints rs] at q
  exact ⟨a, rfl, q.sq⟩
/-- the values that stand for a list of tuples of ints, put in another order -/
theorem rls_perm : ∀ {vs ws : List V}, ws.Perm vs → ∀ {ts : List (List Int)}, Rls K m H (ts.map fun u => D.tup (ofInts u)) vs → ∃ us : List (List Int), us.Perm ts ∧ Rls K m H (us.map fun u => D.tup (ofInts u)) ws := by
  intro vs ws p
  induction p with
  | nil => intro ts r; exact ⟨ts, .refl _, r⟩
  | @cons w a b p ih =>
    intro ts r
    cases ts with
    | nil => simp only [List.map, Rls] at r; cases r
    | cons t ts =>
      simp only [List.map, Rls] at r
      obtain ⟨x, q, e, r1, r2⟩ := r
      cases e
      obtain ⟨us, p2, r3⟩ := ih r2
      exact ⟨t :: us, p2.cons t, Rls.cons r1 r3⟩
  | swap x y l =>
    intro ts r
    cases ts with
    | nil => simp only [List.map, Rls] at r; cases r
    | cons t ts =>
      cases ts with
      | nil =>
        simp only [List.map, Rls] at r
        obtain ⟨_, _, e, _, rfl⟩ := r
        cases e
      | cons t2 ts =>
        simp only [List.map, Rls] at r
        obtain ⟨_, _, e, r1, _, _, e2, r2, r3⟩ := r
        cases e
        cases e2
        exact ⟨t2 :: t :: ts, .swap _ _ _, Rls.cons r2 (Rls.cons r1 r3)⟩
  | trans p1 p2 ih1 ih2 =>
    intro ts r
    obtain ⟨us, q1, r1⟩ := ih2 r
    obtain ⟨ws, q2, r2⟩ := ih1 r1
    exact ⟨ws, q2.trans q1, r2⟩
theorem rls_codes : ∀ {us : List (List Int)} {ws : List V}, Rls K m H (us.map fun u => D.tup (ofInts u)) ws → ws.Pairwise (fun x y => ∀ n m, TupI K H x n → TupI K H y m → TS.code 1000000 n ≤ TS.code 1000000 m) →
    us.Pairwise (fun x y => TS.code 1000000 x ≤ TS.code 1000000 y)
  | [], _, _, _ => .nil
  | u :: us, _, r, p => by
    simp only [List.map, Rls] at r
    obtain ⟨w, ws, rfl, r1, r2⟩ := r
    rw [List.pairwise_cons] at p ⊢
    refine ⟨fun z hz => ?_, rls_codes r2 p.2⟩
    obtain ⟨i, hi⟩ := List.getElem?_of_mem hz
    obtain ⟨y, e1, ry⟩ := r2.get (i := i) (d := D.tup (ofInts z)) (by rw [List.getElem?_map, hi]; rfl)
    exact p.1 y (List.mem_of_getElem? e1) u z r1.tupI ry.tupI
theorem sorted_ok {n : Nat} {xs ys : List D} {v : V} (e0 : getL h n = some xs) (e : sorted xs = some ys) (R : Hr K m h H) (r : Rl K m H (.ref n) v) (P : Post K m (h ++ [.lst ys]) (.ref h.length) H Q) : rBi K .sorted1 [v] H Q := by
  obtain ⟨a, vs, rfl, _, q, rs⟩ := getL_ok R e0 r
  unfold sorted at e
  split at e
  · rename_i is hi
    cases e
    rw [asInts_ok hi] at rs
    have := rs.of_ints
    subst this
    refine .inl ⟨a, is, rfl, q, fun ns p hp hs hpn => ?_⟩
    have e2 : ns = sortI is := sorted_unique (hp.trans (sortI_perm is).symm) hs (sortI_sorted is)
    subst e2
    exact P.newL R hpn Rls.ints
  · obtain ⟨ts, e1, e⟩ := bnd e
    split at e
    · cases e
    · rename_i t ts'
      obtain ⟨hc, e⟩ := iff_some e
      subst e
      simp only [Bool.and_eq_true, decide_eq_true_eq] at hc
      have hA := sameLen_ok hc.2
      rw [asTups_ok e1] at rs
      refine .inr ⟨t.length, hc.1.2, a, vs, rfl, q, ?_, fun x hx => ?_, fun ws p hp hs hpn => ?_⟩
      · rw [rs.length, List.length_map]; exact hc.1.1
      · obtain ⟨i, hi⟩ := List.getElem?_of_mem hx
        have hl : i < ((t :: ts').map fun u => D.tup (ofInts u)).length := by
          rw [← rs.length]
          exact (List.getElem?_eq_some_iff.mp hi).1
        obtain ⟨y, e2, ry⟩ := rs.get (i := i) (List.getElem?_eq_getElem hl)
        rw [hi] at e2
        cases e2
        rw [List.getElem_map] at ry
        rw [List.length_map] at hl
        exact ⟨(t :: ts')[i], ry.tupI, (hA _ (List.getElem_mem hl)).1, (hA _ (List.getElem_mem hl)).2⟩
      · obtain ⟨us, p2, r2⟩ := rls_perm hp rs
        have hu : AllT t.length us := fun z hz => hA z (p2.mem_iff.mp hz)
        have e2 : us = sortT (t :: ts') := sortT_unique hu (fun z hz => hA z ((sortT_perm _).mem_iff.mp hz)) (p2.trans (sortT_perm _).symm) (rls_codes r2 hs) (sortT_sorted _ hA)
        rw [e2] at r2
        exact P.newL R hpn r2
end
end Ez

/-! E2g: built-ins, isinstance, methods, stores by values -/
namespace Ez
open PySem PySem.Spec PyProof.Rows L2
section
variable {K : Fg} {m : List Addr} {h h' : Hh} {H : Hp} {Q : VK} {d : D} {v : V}
theorem bi_ok {b : Bi} {as : List D} {vs : List V} (e : bi b as h = some (d, h')) (R : Hr K m h H) (r : Rls K m H as vs) (P : Post K m h' d H Q) : rBi K b vs H Q := by
  cases b with
  | len =>
    match as, e, r with
    | [x], e, r =>
      obtain ⟨v, rfl, rv⟩ := r.one'
      cases x with
      | str s =>
        simp only [bi] at e
        split at e
        · rename_i hl
          cases e
          simp only [Rl] at rv
          subst rv
          exact .inl ⟨_, s.length, rfl, ⟨by rw [str_len]; exact hl, (str_len s).symm⟩, P.here R rfl⟩
        · cases e
      | tup xs =>
        simp only [bi] at e
        cases e
        simp only [Rl] at rv
        obtain ⟨a, ws, rfl, q, rs⟩ := rv
        exact .inl ⟨_, xs.length, rfl, .inr ⟨ws, q.sq, rs.length.symm⟩, P.here R rfl⟩
      | ref n =>
        simp only [bi] at e
        have rv' := rv
        simp only [Rl] at rv'
        obtain ⟨a, rfl, ha⟩ := rv'
        obtain ⟨o, ho, q⟩ := R.get ha
        rw [ho] at e
        cases o with
        | lst xs =>
          cases e
          obtain ⟨ws, e1, rs⟩ := q
          exact .inl ⟨_, xs.length, rfl, .inl ⟨ws, SqL.of e1, rs.length.symm⟩, P.here R rfl⟩
        | frz xs =>
          cases e
          obtain ⟨ob, ws, e1, rs⟩ := q
          exact .inl ⟨_, xs.length, rfl, .inl ⟨ws, .inl (.inr ⟨ob, e1⟩), rs.length.symm⟩, P.here R rfl⟩
        | dK kvs =>
          cases e
          obtain ⟨L, e1, rs⟩ := q
          refine .inr ⟨a, L, rfl, e1, ?_⟩
          rw [rs.length]
          exact P.here R rfl
        | dT kvs => cases e
      | _ => simp [bi] at e
    | [], e, _ => simp [bi] at e
    | _ :: _ :: _, e, _ => simp [bi] at e
  | all =>
    match as, e, r with
    | [.ref n], e, r =>
      simp only [bi] at e
      obtain ⟨xs, e1, e⟩ := bnd e
      obtain ⟨bs, e2, e⟩ := bnd e
      cases e
      obtain ⟨v, rfl, rv⟩ := r.one'
      obtain ⟨a, ws, rfl, _, q, rs⟩ := getL_ok R e1 rv
      rw [asBools_ok e2 rs] at q
      exact ⟨a, bs, rfl, q, P.here R rfl⟩
    | [], e, _ => simp [bi] at e
    | [.non], e, _ => simp [bi] at e
    | [.bl _], e, _ => simp [bi] at e
    | [.int _], e, _ => simp [bi] at e
    | [.str _], e, _ => simp [bi] at e
    | [.tup _], e, _ => simp [bi] at e
    | [.rp _], e, _ => simp [bi] at e
    | _ :: _ :: _, e, _ => simp [bi] at e
  | any =>
    match as, e, r with
    | [.ref n], e, r =>
      simp only [bi] at e
      obtain ⟨xs, e1, e⟩ := bnd e
      obtain ⟨bs, e2, e⟩ := bnd e
      cases e
      obtain ⟨v, rfl, rv⟩ := r.one'
      obtain ⟨a, ws, rfl, _, q, rs⟩ := getL_ok R e1 rv
      rw [asBools_ok e2 rs] at q
      exact ⟨a, bs, rfl, q, P.here R rfl⟩
    | [], e, _ => simp [bi] at e
    | [.non], e, _ => simp [bi] at e
    | [.bl _], e, _ => simp [bi] at e
    | [.int _], e, _ => simp [bi] at e
    | [.str _], e, _ => simp [bi] at e
    | [.tup _], e, _ => simp [bi] at e
    | [.rp _], e, _ => simp [bi] at e
    | _ :: _ :: _, e, _ => simp [bi] at e
  | int1 =>
    match as, e, r with
    | [x], e, r =>
      obtain ⟨v, rfl, rv⟩ := r.one'
      cases x with
      | int i => simp only [bi] at e; cases e; simp only [Rl] at rv; subst rv; exact .inl ⟨_, rfl, P.here R rfl⟩
      | bl b => simp only [bi] at e; cases e; simp only [Rl] at rv; subst rv; exact .inr ⟨_, rfl, P.here R rfl⟩
      | _ => simp [bi] at e
    | [], e, _ => simp [bi] at e
    | _ :: _ :: _, e, _ => simp [bi] at e
  | list1 =>
    match as, e, r with
    | [x], e, r =>
      obtain ⟨v, rfl, rv⟩ := r.one'
      simp only [bi] at e
      obtain ⟨xs, e1, e⟩ := bnd e
      obtain ⟨rfl, rfl⟩ := alloc_some e
      cases x with
      | tup ys =>
        cases e1
        simp only [Rl] at rv
        obtain ⟨a, ws, rfl, q, rs⟩ := rv
        exact ⟨a, ws, rfl, .inr (q.sq), fun p hp => P.newL R hp rs⟩
      | ref n =>
        obtain ⟨a, ws, rfl, _, q, rs⟩ := getL_ok R e1 rv
        exact ⟨a, ws, rfl, .inl q, fun p hp => P.newL R hp rs⟩
      | _ => cases e1
    | [], e, _ => simp [bi] at e
    | _ :: _ :: _, e, _ => simp [bi] at e
  | tuple1 =>
    match as, e, r with
    | [x], e, r =>
      obtain ⟨v, rfl, rv⟩ := r.one'
      simp only [bi] at e
      obtain ⟨xs, e1, e⟩ := bnd e
      cases e
      cases x with
      | tup ys =>
        cases e1
        have rv' := rv
        simp only [Rl] at rv'
        obtain ⟨a, ws, rfl, q, rs⟩ := rv'
        exact ⟨a, ws, rfl, .inr ⟨q.sq, P.here R rv⟩⟩
      | ref n =>
        obtain ⟨a, ws, rfl, _, q, rs⟩ := getL_ok R e1 rv
        exact ⟨a, ws, rfl, .inl ⟨q, P.newT R rs⟩⟩
      | _ => cases e1
    | [], e, _ => simp [bi] at e
    | _ :: _ :: _, e, _ => simp [bi] at e
  | max1 =>
    match as, e, r with
    | [.ref n], e, r =>
      simp only [bi] at e
      obtain ⟨xs, e1, e⟩ := bnd e
      obtain ⟨is, e2, e⟩ := bnd e
      obtain ⟨v, rfl, rv⟩ := r.one'
      obtain ⟨a, ws, rfl, _, q, rs⟩ := getL_ok R e1 rv
      rw [asInts_ok e2] at rs
      have := rs.of_ints
      subst this
      cases is with
      | nil => cases e
      | cons i t =>
        cases e
        refine ⟨a, i :: t, rfl, q, by simp, fun z hz hz2 => ?_⟩
        obtain ⟨h1, h2, h3⟩ := maxI_ok t i
        have : z = maxI i t := by
          have l1 : maxI i t ≤ z := hz2 _ (by rcases h3 with h3 | h3 <;> simp [h3])
          have l2 : z ≤ maxI i t := by
            rcases List.mem_cons.mp hz with rfl | hz
            · exact h1
            · exact h2 z hz
          omega
        subst this
        exact P.here R rfl
    | [], e, _ => simp [bi] at e
    | [.non], e, _ => simp [bi] at e
    | [.bl _], e, _ => simp [bi] at e
    | [.int _], e, _ => simp [bi] at e
    | [.str _], e, _ => simp [bi] at e
    | [.tup _], e, _ => simp [bi] at e
    | [.rp _], e, _ => simp [bi] at e
    | _ :: _ :: _, e, _ => simp [bi] at e
  | min1 =>
    match as, e, r with
    | [.ref n], e, r =>
      simp only [bi] at e
      obtain ⟨xs, e1, e⟩ := bnd e
      obtain ⟨is, e2, e⟩ := bnd e
      obtain ⟨v, rfl, rv⟩ := r.one'
      obtain ⟨a, ws, rfl, _, q, rs⟩ := getL_ok R e1 rv
      rw [asInts_ok e2] at rs
      have := rs.of_ints
      subst this
      cases is with
      | nil => cases e
      | cons i t =>
        cases e
        refine ⟨a, i :: t, rfl, q, by simp, fun z hz hz2 => ?_⟩
        obtain ⟨h1, h2, h3⟩ := minI_ok t i
        have : z = minI i t := by
          have l1 : z ≤ minI i t := hz2 _ (by rcases h3 with h3 | h3 <;> simp [h3])
          have l2 : minI i t ≤ z := by
            rcases List.mem_cons.mp hz with rfl | hz
            · exact h1
            · exact h2 z hz
          omega
        subst this
        exact P.here R rfl
    | [], e, _ => simp [bi] at e
    | [.non], e, _ => simp [bi] at e
    | [.bl _], e, _ => simp [bi] at e
    | [.int _], e, _ => simp [bi] at e
    | [.str _], e, _ => simp [bi] at e
    | [.tup _], e, _ => simp [bi] at e
    | [.rp _], e, _ => simp [bi] at e
    | _ :: _ :: _, e, _ => simp [bi] at e
  | max2 =>
    unfold bi at e
    split at e <;> first | contradiction | skip
    rename_i i j
    cases e
    obtain ⟨v, u, rfl, r1, r2⟩ := r.two'
    simp only [Rl] at r1 r2
    subst r1
    subst r2
    exact ⟨_, _, rfl, P.here R rfl⟩
  | min2 =>
    unfold bi at e
    split at e <;> first | contradiction | skip
    rename_i i j
    cases e
    obtain ⟨v, u, rfl, r1, r2⟩ := r.two'
    simp only [Rl] at r1 r2
    subst r1
    subst r2
    exact ⟨_, _, rfl, P.here R rfl⟩
  | sum1 =>
    match as, e, r with
    | [.ref n], e, r =>
      simp only [bi] at e
      obtain ⟨xs, e1, e⟩ := bnd e
      obtain ⟨is, e2, e⟩ := bnd e
      cases e
      obtain ⟨v, rfl, rv⟩ := r.one'
      obtain ⟨a, ws, rfl, _, q, rs⟩ := getL_ok R e1 rv
      rw [asInts_ok e2] at rs
      have := rs.of_ints
      subst this
      exact ⟨a, is, rfl, q, P.here R rfl⟩
    | [], e, _ => simp [bi] at e
    | [.non], e, _ => simp [bi] at e
    | [.bl _], e, _ => simp [bi] at e
    | [.int _], e, _ => simp [bi] at e
    | [.str _], e, _ => simp [bi] at e
    | [.tup _], e, _ => simp [bi] at e
    | [.rp _], e, _ => simp [bi] at e
    | _ :: _ :: _, e, _ => simp [bi] at e
  | sorted1 =>
    match as, e, r with
    | [.ref n], e, r =>
      simp only [bi] at e
      obtain ⟨xs, e1, e⟩ := bnd e
      obtain ⟨ys, e2, e⟩ := bnd e
      obtain ⟨rfl, rfl⟩ := alloc_some e
      obtain ⟨v, rfl, rv⟩ := r.one'
      exact sorted_ok e1 e2 R rv P
    | [], e, _ => simp [bi] at e
    | [.non], e, _ => simp [bi] at e
    | [.bl _], e, _ => simp [bi] at e
    | [.int _], e, _ => simp [bi] at e
    | [.str _], e, _ => simp [bi] at e
    | [.tup _], e, _ => simp [bi] at e
    | [.rp _], e, _ => simp [bi] at e
    | _ :: _ :: _, e, _ => simp [bi] at e
  | repr1 =>
    match as, e, r with
    | [x], e, r =>
      simp only [bi] at e
      obtain ⟨p, e1, e⟩ := bnd e
      obtain ⟨hc, e⟩ := iff_some e
      cases e
      rw [Bool.and_eq_true, decide_eq_true_eq] at hc
      obtain ⟨v, rfl, rv⟩ := r.one'
      obtain ⟨a1, a2, a3⟩ := toP_ok R DP x p v e1 rv
      obtain ⟨b1, b2⟩ := showP_ok p hc.1
      refine ⟨v, p, rfl, a1, a2, a3, b1, ?_, P.here R rfl⟩
      refine PyData.shown_fits_of_layable0 (B := 13) (by decide) (by decide) ?_ b2
      unfold PyData.layable0
      simp only [Bool.and_eq_true, decide_eq_true_eq]
      have : DP = 40 := rfl
      refine ⟨⟨a2, by omega⟩, ?_⟩
      rw [wtP_ok]
      exact hc.2
    | [], e, _ => simp [bi] at e
    | _ :: _ :: _, e, _ => simp [bi] at e
end
end Ez

/-! E2h: isinstance, methods, stores by values -/
namespace Ez
open PySem PySem.Spec PyProof.Rows L2
/-! ### isinstance -/
def tyS : Ty → String
  | .int => "int" | .bool => "bool" | .str => "str" | .tuple => "tuple" | .list => "list" | .dict => "dict"
def tyN : Ty → Str
  | .int => "int" | .bool => "bool" | .str => "str" | .tuple => "tuple" | .list => "list" | .dict => "dict"
theorem tyN_boot (t : Ty) : bootBuiltins (tyN t) = some (.type (tyS t)) := by cases t <;> decide +kernel
def tyHas (a : String) (t : Ty) : Bool := a == tyS t || (a == "bool" && tyS t == "int")
theorem kit_non (K : Fg) (t : Ty) : PySem.W.kitOne K (.type "NoneType") (.type (tyS t)) = some (tyHas "NoneType" t) := by cases t <;> exact kit_ty (by decide +kernel)
theorem kit_bool (K : Fg) (t : Ty) : PySem.W.kitOne K (.type "bool") (.type (tyS t)) = some (tyHas "bool" t) := by cases t <;> exact kit_ty (by decide +kernel)
theorem kit_int (K : Fg) (t : Ty) : PySem.W.kitOne K (.type "int") (.type (tyS t)) = some (tyHas "int" t) := by cases t <;> exact kit_ty (by decide +kernel)
theorem kit_str (K : Fg) (t : Ty) : PySem.W.kitOne K (.type "str") (.type (tyS t)) = some (tyHas "str" t) := by cases t <;> exact kit_ty (by decide +kernel)
theorem kit_tuple (K : Fg) (t : Ty) : PySem.W.kitOne K (.type "tuple") (.type (tyS t)) = some (tyHas "tuple" t) := by cases t <;> exact kit_ty (by decide +kernel)
theorem kit_list (K : Fg) (t : Ty) : PySem.W.kitOne K (.type "list") (.type (tyS t)) = some (tyHas "list" t) := by cases t <;> exact kit_ty (by decide +kernel)
theorem kit_dict (K : Fg) (t : Ty) : PySem.W.kitOne K (.type "dict") (.type (tyS t)) = some (tyHas "dict" t) := by cases t <;> exact kit_ty (by decide +kernel)
section
variable {K : Fg} {m : List Addr} {h h' : Hh} {H : Hp} {Q : VK} {d x : D} {v : V}
theorem isTy_ok {t : Ty} {b : Bool} (e : isTy h t x = some b) (R : Hr K m h H) (r : Rl K m H x v) (q : Q (.bl b) H) : rIsi K [v, .ty (tyS t)] H Q := by
  cases x with
  | non => simp only [Rl] at r; subst r; exact ⟨_, _, _, _, _, rfl, .ty _, .base .non, kit_non K t, by cases t <;> (cases e; exact q)⟩
  | bl c => simp only [Rl] at r; subst r; exact ⟨_, _, _, _, _, rfl, .ty _, .base (.bl c), kit_bool K t, by cases t <;> (cases e; exact q)⟩
  | int i => simp only [Rl] at r; subst r; exact ⟨_, _, _, _, _, rfl, .ty _, .base (.int i), kit_int K t, by cases t <;> (cases e; exact q)⟩
  | str s => simp only [Rl] at r; subst r; exact ⟨_, _, _, _, _, rfl, .ty _, .base (.str _), kit_str K t, by cases t <;> (cases e; exact q)⟩
  | tup xs =>
    simp only [Rl] at r
    obtain ⟨a, vs, rfl, g, _⟩ := r
    obtain ⟨ob, g, _⟩ := g
    exact ⟨_, _, _, _, _, rfl, .ty _, .fTuple g, kit_tuple K t, by cases t <;> (cases e; exact q)⟩
  | ref n =>
    simp only [Rl] at r
    obtain ⟨a, rfl, ha⟩ := r
    obtain ⟨o, ho, g⟩ := R.get ha
    simp only [isTy, ho] at e
    cases o with
    | lst xs => obtain ⟨vs, e1, _⟩ := g; exact ⟨_, _, _, _, _, rfl, .ty _, .base (.lst e1), kit_list K t, by cases t <;> (cases e; exact q)⟩
    | frz xs => cases e
    | dK kvs => obtain ⟨L, e1, _⟩ := g; exact ⟨_, _, _, _, _, rfl, .ty _, .base (.dK e1), kit_dict K t, by cases t <;> (cases e; exact q)⟩
    | dT kvs => cases e
  | rp p => cases e
  | ptp p => cases e
end
/-! ### methods -/
theorem seqIx {i : Int} {n : Nat} (h0 : 0 ≤ i) (h : i.toNat < n) : seqIndex? i n = some i.toNat := by
  have h1 : ¬ i < 0 := by omega
  have h2 : i < n := by omega
  simp [seqIndex?, h1, h0, h2]
def rtS : Rt → String
  | .list => "list" | .dict => "dict" | .tuple => "tuple"
def meN : Me → Str
  | .append => "append" | .extend => "extend" | .pop0 => "pop" | .pop1 => "pop" | .insert => "insert" | .index => "index" | .get1 => "get" | .get2 => "get"
/-- the built-in behind a method -/
def meI : Rt → Me → String
  | .list, .append => "list.append" | .list, .extend => "list.extend" | .list, .pop0 => "list.pop" | .list, .pop1 => "list.pop" | .list, .insert => "list.insert" | .list, .index => "list.index"
  | .dict, .get1 => "dict.get" | .dict, .get2 => "dict.get"
  | .tuple, .index => "tuple.index"
  | _, _ => ""
def meOk : Rt → Me → Bool
  | .list, .append => true | .list, .extend => true | .list, .pop0 => true | .list, .pop1 => true | .list, .insert => true | .list, .index => true
  | .dict, .get1 => true | .dict, .get2 => true
  | .tuple, .index => true
  | _, _ => false
structure MF (T : String) (name : Str) (id : String) : Prop where
  pa : PlainAttrs T
  slot : Slot T name id
  ty : typeOf (.builtin id) = pure (.type "method_descriptor")
theorem mf_of {rt : Rt} {m : Me} (h : meOk rt m = true) : MF (rtS rt) (meN m) (meI rt m) := by
  cases rt <;> cases m <;> first
    | exact ⟨PySem.F.plainAttrs_list, PySem.F.slot_list_append, PySem.F.type_list_append⟩
    | exact ⟨PySem.F.plainAttrs_list, PySem.F.slot_list_extend, PySem.F.type_list_extend⟩
    | exact ⟨PySem.F.plainAttrs_list, PySem.F.slot_list_pop, PySem.F.type_list_pop⟩
    | exact ⟨PySem.F.plainAttrs_list, PySem.F.slot_list_insert, PySem.F.type_list_insert⟩
    | exact ⟨PySem.F.plainAttrs_list, PySem.F.slot_list_index, PySem.F.type_list_index⟩
    | exact ⟨PySem.F.plainAttrs_tuple, PySem.F.slot_tuple_index, PySem.F.type_tuple_index⟩
    | exact ⟨PySem.F.plainAttrs_dict, PySem.F.slot_dict_get, PySem.F.type_dict_get⟩
    | cases h
/-- a receiver of a type -/
def TyM (K : Fg) (H : Hp) (x : V) : Rt → Prop
  | .list => ∃ p xs, x = .ref p ∧ SqL K H p xs
  | .dict => ∃ p, x = .ref p ∧ IsDN H p
  | .tuple => ∃ p xs, x = .ref p ∧ Tp H p xs
theorem TyM.is {X : Cx} {pins : List (Addr × Obj)} {σ : L2.St} {H : Hp} {s : Shared} {rt : Rt} {x : V} {v : Value} (I : Inv X pins σ H s) (r : RelV x v) (t : TyM X.K H x rt) :
    s.TypeIs v (rtS rt) ∧ ∀ a, v = .ref a → ∃ ob, s.heap.get? a = some ob ∧ ob.dict = none := by
  cases rt with
  | list =>
    obtain ⟨p, xs, rfl, q⟩ := t
    exact tyV_is I r (.inl ⟨rfl, xs, q⟩)
  | dict =>
    obtain ⟨p, rfl, q⟩ := t
    cases r
    obtain ⟨h1, h2, _⟩ := isDN_at I q
    exact ⟨h1, h2⟩
  | tuple =>
    obtain ⟨p, xs, rfl, ob, q, hd⟩ := t
    cases r
    obtain ⟨h1, _, its, _, o2, h2, h3, _⟩ := I.hok p _ q
    refine ⟨⟨o2, h2, h3⟩, fun a e => ?_⟩
    cases e
    exact ⟨ob, h1, hd⟩
abbrev RM := V → List V → Hp → VK → Prop
def rInsert : RM := fun x vs H Q => ∃ (l : Addr) (xs : List V) (i : Int) (y : V), x = .ref l ∧ vs = [.int i, y] ∧ H l = some (.lst xs) ∧ xs.length < sizeLine ∧ 0 ≤ i ∧ i < 2 ^ 63 ∧ Q .non (upd H l (.lst (xs.take i.toNat ++ [y] ++ xs.drop i.toNat)))
def rIndexI (K : Fg) : RM := fun x vs H Q => ∃ (a : Addr) (is : List Int) (k : Int), x = .ref a ∧ vs = [.int k] ∧ SqL K H a (is.map V.int) ∧ k ∈ is ∧ Q (.int (is.idxOf k : Nat)) H
def rGet1 : RM := fun x vs H Q => ∃ a y o, x = .ref a ∧ vs = [y] ∧ DG H a y o ∧ Q (o.getD .non) H
def rGet2 : RM := fun x vs H Q => ∃ a y z o, x = .ref a ∧ vs = [y, z] ∧ DG H a y o ∧ Q (o.getD z) H
theorem mt_indexI {X : Cx} : MtR X "list.index" (rIndexI X.K) := by
  intro pins s σ H x xs v us Q I rx rxs h
  obtain ⟨a, is, k, rfl, rfl, hs, hk, q⟩ := h
  cases rx
  obtain ⟨u, rfl, t, rfl⟩ := Vals.one rxs
  obtain ⟨its, rv, p, hz⟩ := I.list hs
  have hl := rv.length
  rw [List.length_map] at hl
  refine SeqAt.call_list_index (ks := is) (k := k) p.isList ⟨hl.symm, fun j h1 h2 => ?_⟩ (by rw [List.length_map] at hz; exact hz) hk ⟨.int _, H, I.tok _, ⟨_, rfl⟩, q⟩
  obtain ⟨w, e1, rw'⟩ := rv.get (i := j) (x := V.int is[j]) (by rw [List.getElem?_map, List.getElem?_eq_getElem h2]; rfl)
  rw [List.getElem?_eq_getElem h1] at e1
  have e2 := Option.some.inj e1
  rw [e2]
  have := eqAt_V (A := X.A.in1) (s := s) rw' (show RelV (.int k) (.int k t) from ⟨t, rfl⟩) rfl rfl
  have e3 : eqV (.int is[j]) (.int k) = decide (is[j] = k) := by
    show (is[j] == k) = _
    rw [Bool.eq_iff_iff]
    simp
  rw [e3] at this
  exact this
def rIndexT : RM := fun x vs H Q => ∃ (a : Addr) (is : List Int) (k : Int), x = .ref a ∧ vs = [.int k] ∧ Tp H a (is.map V.int) ∧ k ∈ is ∧ Q (.int (is.idxOf k : Nat)) H
theorem mt_indexT {X : Cx} : MtR X "tuple.index" rIndexT := by
  intro pins s σ H x xs v us Q I rx rxs h
  obtain ⟨a, is, k, rfl, rfl, hs, hk, q⟩ := h
  cases rx
  obtain ⟨u, rfl, t, rfl⟩ := Vals.one rxs
  obtain ⟨its, rv, p, hz⟩ := I.tuple (hs.sq (K := X.K))
  have hl := rv.length
  rw [List.length_map] at hl
  refine SeqAt.call_tuple_index (ks := is) (k := k) p ⟨hl.symm, fun j h1 h2 => ?_⟩ hk ⟨.int _, H, I.tok _, ⟨_, rfl⟩, q⟩
  obtain ⟨w, e1, rw'⟩ := rv.get (i := j) (x := V.int is[j]) (by rw [List.getElem?_map, List.getElem?_eq_getElem h2]; rfl)
  rw [List.getElem?_eq_getElem h1] at e1
  have e2 := Option.some.inj e1
  rw [e2]
  have := eqAt_V (A := X.A.in1) (s := s) rw' (show RelV (.int k) (.int k t) from ⟨t, rfl⟩) rfl rfl
  have e3 : eqV (.int is[j]) (.int k) = decide (is[j] = k) := by
    show (is[j] == k) = _
    rw [Bool.eq_iff_iff]
    simp
  rw [e3] at this
  exact this
theorem mt_get1 {X : Cx} (hu : X.A.units + 9 < cLine) : MtR X "dict.get" rGet1 := by
  intro pins s σ H x xs v us Q I rx rxs h
  obtain ⟨a, y, o, rfl, rfl, g, q⟩ := h
  cases rx
  obtain ⟨u, rfl, ru⟩ := Vals.one rxs
  exact dg_get1 hu I g ru fun w' s3 I3 rw' => ⟨_, H, I3, rw', q⟩
theorem mt_get2 {X : Cx} (hu : X.A.units + 9 < cLine) : MtR X "dict.get" rGet2 := by
  intro pins s σ H x xs v us Q I rx rxs h
  obtain ⟨a, y, z, o, rfl, rfl, g, q⟩ := h
  cases rx
  obtain ⟨u, w, rfl, ru, rw'⟩ := Vals.two rxs
  exact dg_get2 hu I g ru rw' fun w' s3 I3 rw2 => ⟨_, H, I3, rw2, q⟩
def rMe (K : Fg) : Rt → Me → RM
  | .list, .append => rAppend
  | .list, .extend => rExtend
  | .list, .pop0 => rPop
  | .list, .pop1 => rPopAt
  | .list, .insert => rInsert
  | .list, .index => rIndexI K
  | .dict, .get1 => rGet1
  | .dict, .get2 => rGet2
  | .tuple, .index => rIndexT
  | _, _ => fun _ _ _ _ => False
theorem mt_me {X : Cx} (hu : X.A.units + 9 < cLine) {rt : Rt} {m : Me} (h : meOk rt m = true) : MtR X (meI rt m) (rMe X.K rt m) := by
  cases rt <;> cases m <;> first
    | exact mt_append
    | exact mt_extend
    | exact mt_pop
    | exact mt_popAt
    | exact mt_insert
    | exact mt_indexI
    | exact mt_indexT
    | exact mt_get1 hu
    | exact mt_get2 hu
    | cases h
section
variable {K : Fg} {m : List Addr} {h h' : Hh} {H : Hp} {Q : VK} {d o : D} {v : V}
theorem rcv_ok {rt : Rt} (e : rcv h o = some rt) (R : Hr K m h H) (r : Rl K m H o v) : TyM K H v rt := by
  cases o with
  | ref n =>
    simp only [rcv] at e
    simp only [Rl] at r
    obtain ⟨a, rfl, ha⟩ := r
    obtain ⟨ob, ho, q⟩ := R.get ha
    rw [ho] at e
    cases ob with
    | lst xs => cases e; obtain ⟨vs, e1, _⟩ := q; exact ⟨a, vs, rfl, SqL.of e1⟩
    | frz xs => cases e; obtain ⟨ob, vs, e1, _⟩ := q; exact ⟨a, vs, rfl, .inl (.inr ⟨ob, e1⟩)⟩
    | dK kvs => cases e; obtain ⟨L, e1, _⟩ := q; exact ⟨a, rfl, .inl (.inl ⟨L, .inl e1⟩)⟩
    | dT kvs => cases e; obtain ⟨L, e1, _⟩ := q; exact ⟨a, rfl, .inr ⟨L, e1⟩⟩
  | tup xs =>
    cases e
    simp only [Rl] at r
    obtain ⟨a, vs, rfl, g, _⟩ := r
    exact ⟨a, vs, rfl, g⟩
  | _ => cases e
theorem OptR.getD {od : Option D} {ov : Option V} {z : D} {w : V} (r : OptR K m H od ov) (rz : Rl K m H z w) : Rl K m H (od.getD z) (ov.getD w) := by
  cases od with
  | none => simp only [OptR] at r; subst r; exact rz
  | some x => obtain ⟨v, rfl, rv⟩ := r; exact rv
theorem met_ok {rt : Rt} {me : Me} {as : List D} {vs : List V} (e : met rt me o as h = some (d, h')) (R : Hr K m h H) (r : Rl K m H o v) (rs : Rls K m H as vs) (P : Post K m h' d H Q) : meOk rt me = true ∧ rMe K rt me v vs H Q := by
  cases rt with
  | list =>
    cases o with
    | ref n =>
      simp only [met] at e
      cases me with
      | append =>
        simp only [metL] at e
        split at e
        · obtain ⟨xs, e1, e⟩ := bnd e
          obtain ⟨hc, e⟩ := iff_some e
          cases e
          rw [decide_eq_true_eq] at hc
          obtain ⟨a, ws, rfl, ha, q, rx⟩ := getM_ok R e1 r
          obtain ⟨y, rfl, ry⟩ := rs.one'
          exact ⟨rfl, a, ws, y, rfl, rfl, q, by rw [rx.length]; exact hc, P.setL R ha (rx.append (Rls.one ry)) rfl⟩
        · cases e
      | extend =>
        simp only [metL] at e
        split at e
        · obtain ⟨xs, e1, e⟩ := bnd e
          obtain ⟨ys, e2, e⟩ := bnd e
          obtain ⟨hc, e⟩ := iff_some e
          cases e
          rw [decide_eq_true_eq] at hc
          obtain ⟨a, ws, rfl, ha, q, rx⟩ := getM_ok R e1 r
          obtain ⟨y, rfl, ry⟩ := rs.one'
          obtain ⟨b, zs, rfl, hb, q2, rx2⟩ := getM_ok R e2 ry
          exact ⟨rfl, a, b, ws, zs, rfl, rfl, q, q2, by rw [rx.length, rx2.length]; exact hc, P.setL R ha (rx.append rx2) rfl⟩
        · cases e
      | pop0 =>
        simp only [metL] at e
        split at e
        · obtain ⟨xs, e1, e⟩ := bnd e
          obtain ⟨y, e2, e⟩ := bnd e
          cases e
          obtain ⟨a, ws, rfl, ha, q, rx⟩ := getM_ok R e1 r
          have := rs
          simp only [Rls] at this
          subst this
          obtain ⟨w, e3, rw'⟩ := rx.get e2
          exact ⟨rfl, a, ws, w, rfl, rfl, q, by rw [rx.length]; exact e3, P.setL R ha rx.dropLast rw'⟩
        · cases e
      | pop1 =>
        simp only [metL] at e
        split at e
        · rename_i i
          obtain ⟨xs, e1, e⟩ := bnd e
          split at e
          · rename_i hc
            rw [Bool.and_eq_true, decide_eq_true_eq, decide_eq_true_eq] at hc
            obtain ⟨y, e2, e⟩ := bnd e
            cases e
            obtain ⟨a, ws, rfl, ha, q, rx⟩ := getM_ok R e1 r
            obtain ⟨u, rfl, ru⟩ := rs.one'
            simp only [Rl] at ru
            subst ru
            obtain ⟨w, e3, rw'⟩ := rx.get e2
            have hlt : i.toNat < xs.length := (List.getElem?_eq_some_iff.mp e2).1
            refine ⟨rfl, a, ws, i, i.toNat, w, rfl, rfl, q, by omega, by omega, ?_, e3, P.setL R ha (rx.eraseIdx _) rw'⟩
            rw [rx.length]
            exact seqIx hc.1 hlt
          · cases e
        · cases e
      | insert =>
        simp only [metL] at e
        split at e
        · rename_i i y
          obtain ⟨xs, e1, e⟩ := bnd e
          obtain ⟨hc, e⟩ := iff_some e
          cases e
          simp only [Bool.and_eq_true, decide_eq_true_eq] at hc
          obtain ⟨a, ws, rfl, ha, q, rx⟩ := getM_ok R e1 r
          obtain ⟨u, w, rfl, ru, rw'⟩ := rs.two'
          simp only [Rl] at ru
          subst ru
          exact ⟨rfl, a, ws, i, w, rfl, rfl, q, by rw [rx.length]; exact hc.2, hc.1.1, by omega, P.setL R ha (((rx.take _).append (Rls.one rw')).append (rx.drop _)) rfl⟩
        · cases e
      | index =>
        simp only [metL] at e
        split at e
        · rename_i k
          obtain ⟨xs, e1, e⟩ := bnd e
          obtain ⟨is, e2, e⟩ := bnd e
          obtain ⟨hc, e⟩ := iff_some e
          cases e
          obtain ⟨a, ws, rfl, ha, q, rx⟩ := getL_ok R e1 r
          rw [asInts_ok e2] at rx
          have := rx.of_ints
          subst this
          obtain ⟨u, rfl, ru⟩ := rs.one'
          simp only [Rl] at ru
          subst ru
          exact ⟨rfl, a, is, k, rfl, rfl, q, by simpa using hc, P.here R rfl⟩
        · cases e
      | get1 => simp [metL] at e
      | get2 => simp [metL] at e
    | _ => simp [met] at e
  | dict =>
    cases o with
    | ref n =>
      simp only [met] at e
      cases me with
      | get1 =>
        simp only [metD] at e
        split at e
        · obtain ⟨od, e1, e⟩ := bnd e
          cases e
          obtain ⟨u, rfl, ru⟩ := rs.one'
          obtain ⟨a, ov, rfl, g, ro⟩ := dget_ok e1 R r ru
          exact ⟨rfl, a, u, ov, rfl, rfl, g, P.here R (ro.getD rfl)⟩
        · cases e
      | get2 =>
        simp only [metD] at e
        split at e
        · obtain ⟨od, e1, e⟩ := bnd e
          cases e
          obtain ⟨u, w, rfl, ru, rw'⟩ := rs.two'
          obtain ⟨a, ov, rfl, g, ro⟩ := dget_ok e1 R r ru
          exact ⟨rfl, a, u, w, ov, rfl, rfl, g, P.here R (ro.getD rw')⟩
        · cases e
      | _ => simp [metD] at e
    | _ => simp [met] at e
  | tuple =>
    cases o with
    | tup xs =>
      simp only [met] at e
      cases me with
      | index =>
        simp only [metT] at e
        split at e
        · rename_i k
          obtain ⟨is, e2, e⟩ := bnd e
          obtain ⟨hc, e⟩ := iff_some e
          cases e
          simp only [Rl] at r
          obtain ⟨a, ws, rfl, g, rx⟩ := r
          rw [asInts_ok e2] at rx
          have := rx.of_ints
          subst this
          obtain ⟨u, rfl, ru⟩ := rs.one'
          simp only [Rl] at ru
          subst ru
          exact ⟨rfl, a, is, k, rfl, rfl, g, by simpa using hc, P.here R rfl⟩
        · cases e
      | _ => simp [metT] at e
    | _ => simp [met] at e
/-! ### stores -/
theorem any_K (q : Key) : ∀ {kvs : List (D × D)} {L : List (Key × V)}, RlK K m H kvs L → (kvs.any fun p => keqK p.1 (kD q)) = L.any fun kv => decide (kv.1 = q)
  | [], _, r => by simp only [RlK] at r; subst r; rfl
  | (k, x) :: kvs, _, r => by
    simp only [RlK] at r
    obtain ⟨p, w, t, rfl, rfl, _, r2⟩ := r
    simp only [List.any_cons, keqK_iff, any_K q r2]
theorem map_K (q : Key) {y : D} {w : V} (ry : Rl K m H y w) : ∀ {kvs : List (D × D)} {L : List (Key × V)}, RlK K m H kvs L → RlK K m H (kvs.map fun p => if keqK p.1 (kD q) = true then (p.1, y) else p) (L.map fun kv => if kv.1 = q then (kv.1, w) else kv)
  | [], _, r => by simp only [RlK] at r; subst r; exact rfl
  | (k, x) :: kvs, _, r => by
    simp only [RlK] at r
    obtain ⟨p, u, t, rfl, rfl, r1, r2⟩ := r
    simp only [List.map_cons, keqK_iff, decide_eq_true_eq]
    by_cases e : p = q
    · rw [if_pos e, if_pos e]
      exact ⟨p, w, _, rfl, rfl, ry, map_K q ry r2⟩
    · rw [if_neg e, if_neg e]
      exact ⟨p, u, _, rfl, rfl, r1, map_K q ry r2⟩
theorem app_K (q : Key) {y : D} {w : V} (ry : Rl K m H y w) : ∀ {kvs : List (D × D)} {L : List (Key × V)}, RlK K m H kvs L → RlK K m H (kvs ++ [(kD q, y)]) (L ++ [(q, w)])
  | [], _, r => by simp only [RlK] at r; subst r; exact ⟨q, w, [], rfl, rfl, ry, rfl⟩
  | (k, x) :: kvs, _, r => by
    simp only [RlK] at r
    obtain ⟨p, u, t, rfl, rfl, r1, r2⟩ := r
    exact ⟨p, u, _, rfl, rfl, r1, app_K q ry r2⟩
theorem put_K (q : Key) {y : D} {w : V} (ry : Rl K m H y w) {kvs : List (D × D)} {L : List (Key × V)} (r : RlK K m H kvs L) : RlK K m H (putV keqK (kD q) y kvs) (putK L q w) := by
  unfold putV putK
  rw [any_K q r]
  split
  · exact map_K q ry r
  · exact app_K q ry r
theorem any_T (q : NestedKey) (hq : noTx q = true) : ∀ {kvs : List (D × D)} {L : List (NestedKey × Addr × V)}, RlT K m H kvs L → (kvs.any fun p => keqT p.1 (nD q)) = (valN L q).isSome
  | [], _, r => by simp only [RlT] at r; subst r; rfl
  | (k, x) :: kvs, _, r => by
    simp only [RlT] at r
    obtain ⟨p, b, w, t, rfl, rfl, n, _, _, _, r2⟩ := r
    rw [List.any_cons, keqT_iff p q n hq, any_T q hq r2]
    unfold valN
    rw [List.find?_cons]
    by_cases e : p = q
    · simp only [e, decide_true]
      rfl
    · simp only [e, decide_false, Bool.false_or]
theorem map_T (q : NestedKey) (hq : noTx q = true) {y : D} {w : V} (ry : Rl K m H y w) : ∀ {kvs : List (D × D)} {L : List (NestedKey × Addr × V)}, RlT K m H kvs L → RlT K m H (kvs.map fun p => if keqT p.1 (nD q) = true then (p.1, y) else p) (L.map fun x => if x.1 = q then (x.1, x.2.1, w) else x)
  | [], _, r => by simp only [RlT] at r; subst r; exact rfl
  | (k, x) :: kvs, _, r => by
    simp only [RlT] at r
    obtain ⟨p, b, u, t, rfl, rfl, n, dp, rk, r1, r2⟩ := r
    simp only [List.map_cons, keqT_iff p q n hq, decide_eq_true_eq]
    by_cases e : p = q
    · rw [if_pos e, if_pos e]
      exact ⟨p, b, w, _, rfl, rfl, n, dp, rk, ry, map_T q hq ry r2⟩
    · rw [if_neg e, if_neg e]
      exact ⟨p, b, u, _, rfl, rfl, n, dp, rk, r1, map_T q hq ry r2⟩
theorem app_T (q : NestedKey) (hq : noTx q = true) (hd : q.depth ≤ 8) {b : Addr} (hb : Rl K m H (nD q) (.ref b)) {y : D} {w : V} (ry : Rl K m H y w) : ∀ {kvs : List (D × D)} {L : List (NestedKey × Addr × V)}, RlT K m H kvs L → RlT K m H (kvs ++ [(nD q, y)]) (L ++ [(q, b, w)])
  | [], _, r => by simp only [RlT] at r; subst r; exact ⟨q, b, w, [], rfl, rfl, hq, hd, hb, ry, rfl⟩
  | (k, x) :: kvs, _, r => by
    simp only [RlT] at r
    obtain ⟨p, c, u, t, rfl, rfl, n, dp, rk, r1, r2⟩ := r
    exact ⟨p, c, u, _, rfl, rfl, n, dp, rk, r1, app_T q hq hd hb ry r2⟩
theorem put_T (q : NestedKey) (hq : noTx q = true) (hd : q.depth ≤ 8) {b : Addr} (hb : Rl K m H (nD q) (.ref b)) {y : D} {w : V} (ry : Rl K m H y w) {kvs : List (D × D)} {L : List (NestedKey × Addr × V)} (r : RlT K m H kvs L) : RlT K m H (putV keqT (nD q) y kvs) (putN L q b w) := by
  unfold putV putN
  rw [any_T q hq r]
  split
  · exact map_T q hq ry r
  · exact app_T q hq hd hb ry r
theorem RlT.length : ∀ {kvs : List (D × D)} {L : List (NestedKey × Addr × V)}, RlT K m H kvs L → L.length = kvs.length
  | [], _, r => by simp only [RlT] at r; subst r; rfl
  | (k, x) :: kvs, _, r => by
    simp only [RlT] at r
    obtain ⟨_, _, _, t, rfl, _, _, _, _, _, r2⟩ := r
    simp [RlT.length r2]
/-- what is wanted of the heap behind a store -/
def PostH (K : Fg) (m : List Addr) (h' : Hh) (H : Hp) (Q : Hp → Prop) : Prop := ∀ H', Ext m m H H' → Hr K m h' H' → Q H'
theorem dput_ok {n : Nat} {k y : D} {u w : V} {QH : Hp → Prop} (e : dput h n k y = some h') (R : Hr K m h H) (rn : Rl K m H (.ref n) v) (rk : Rl K m H k u) (ry : Rl K m H y w) (P : PostH K m h' H QH) : ∃ a H4, v = .ref a ∧ DPt H a u w H4 ∧ QH H4 := by
  simp only [Rl] at rn
  obtain ⟨a, rfl, ha⟩ := rn
  obtain ⟨ob, ho, q⟩ := R.get ha
  unfold dput at e
  rw [ho] at e
  cases ob with
  | lst xs => cases e
  | frz xs => cases e
  | dK kvs =>
    obtain ⟨hc, e⟩ := iff_some e
    subst e
    rw [Bool.and_eq_true, decide_eq_true_eq] at hc
    obtain ⟨L, e1, r1⟩ := q
    obtain ⟨kq, rfl, rfl⟩ := keyK_ok hc.1 rk
    refine ⟨a, _, rfl, .inl (DPut.k e1 (by rw [r1.length]; exact hc.2)), P _ (Ext.set ha) (R.set ha ⟨_, upd_same, ?_⟩)⟩
    exact RlK.mono (fun _ _ q => q) ((Ext.set ha).tup R) _ _ (put_K kq ry r1)
  | dT kvs =>
    obtain ⟨hc, e⟩ := iff_some e
    subst e
    rw [Bool.and_eq_true, decide_eq_true_eq] at hc
    obtain ⟨L, e1, r1⟩ := q
    obtain ⟨hk, hl⟩ := hc
    obtain ⟨q, b, rfl, rfl, kq⟩ := keyT_ok hk rk
    refine ⟨a, _, rfl, .inr ⟨L, q, b, e1, r1.keys, rfl, kq, by rw [r1.length]; exact hl, rfl⟩, P _ (Ext.set ha) (R.set ha ⟨_, upd_same, ?_⟩)⟩
    exact RlT.mono (fun _ _ q => q) ((Ext.set ha).tup R) _ _ (put_T q kq.2.1 kq.2.2 rk ry r1)
end
def rStore : TSet := fun o i v H Q => rSetL o i v H Q ∨ ∃ a H4, o = .ref a ∧ DPt H a i v H4 ∧ Q H4
theorem ps_store {X : Cx} (hu : X.A.units + 9 < cLine) : PSet X rStore := by
  intro pins s σ H o i v ov iv u Q I ro ri rv h
  rcases h with h | ⟨a, H4, rfl, g, q⟩
  · exact set_list pins s σ H o i v ov iv u Q I ro ri rv h
  · cases ro
    exact dp_setItem hu I g ri rv fun s4 I4 => ⟨H4, I4, q⟩
section
variable {K : Fg} {m : List Addr} {h h' : Hh} {H : Hp} {d o i : D} {v ov iv : V} {QH : Hp → Prop}
theorem store_ok' (e : store o i d h = some h') (R : Hr K m h H) (ro : Rl K m H o ov) (ri : Rl K m H i iv) (rv : Rl K m H d v) (P : PostH K m h' H QH) : rStore ov iv v H QH := by
  cases o with
  | ref n =>
    simp only [store] at e
    split at e
    · rename_i xs hx
      split at e
      · rename_i k
        obtain ⟨j, e1, e⟩ := bnd e
        cases e
        have hg : getM h n = some xs := by unfold getM; rw [hx]
        obtain ⟨a, ws, rfl, ha, q, rx⟩ := getM_ok R hg ro
        simp only [Rl] at ri
        subst ri
        refine .inl ⟨a, ws, k, j, rfl, rfl, q, by rw [rx.length]; exact e1, P _ (Ext.set ha) (R.set ha ⟨_, upd_same, (Ext.set ha).rls R (rx.set j rv)⟩)⟩
      · cases e
    · exact .inr (dput_ok e R ro ri rv P)
  | _ => cases e
end
end Ez

/-! E2r: a tuple turned round by a slice, a tuple written -/
namespace Ez
open PySem PySem.Spec PyProof.Rows L2
section
variable {prog : Program} {w : World} {A : Around} {E : Value → Shared → Prop} {s : Shared}
theorem back_adjust (n : Nat) : Builtin.Slice.sliceAdjust none none (-1) (n : Int) = ((n : Int) - 1, -1) := by
  unfold Builtin.Slice.sliceAdjust
  simp
theorem back_places (n : Nat) : Builtin.Slice.slicePlaces ((n : Int) - 1) (-1) (-1) = n := by
  unfold Builtin.Slice.slicePlaces
  have h1 : ¬ ((-1 : Int) > 0) := by omega
  rw [if_neg h1]
  split
  · have : ((n : Int) - 1 - -1 - 1) / (- -1) + 1 = n := by
      have e : (- -1 : Int) = 1 := by omega
      rw [e, Int.ediv_one]
      omega
    rw [this]
    omega
  · omega
theorem back_applied {sl : Addr} {vl vu vs : Value} {n : Nat} {Q : Int × Int × Nat → Shared → Prop} (hs : s.heap.IsSliceOf sl vl vu vs) (pl : IsPart vl none) (pu : IsPart vu none) (ps : IsPart vs (some (-1)))
    (h : Q ((n : Int) - 1, -1, n) s) : wpAny (model prog w) A (Builtin.Slice.sliceApplied (.ref sl) (pure (n : Int))) Q E s := by
  obtain ⟨os, hos, hcs, hds⟩ := id hs
  unfold Builtin.Slice.sliceApplied Builtin.Slice.sliceFields
  refine wpAny_bind (wpAny_bind (wpAny_field hos hds (x := vl) rfl (wpAny_bind (wpAny_field hos hds (x := vu) rfl (wpAny_bind (wpAny_field hos hds (x := vs) rfl (wpAny_pure ?_)))))))
  refine wpAny_bind (HT.slicePart_ ps ?_)
  show wpAny _ _ (if ((-1 : Int) == 0) = true then _ else _) _ _ s
  rw [if_neg (by decide)]
  refine wpAny_bind (HT.slicePart_ pl (wpAny_bind (HT.slicePart_ pu (wpAny_bind (wpAny_pure ?_)))))
  show wpAny _ _ (match Builtin.Slice.sliceAdjust none none (-1) (n : Int) with | (lo, hi) => pure (lo, (-1 : Int), Builtin.Slice.slicePlaces lo hi (-1))) _ _ s
  rw [back_adjust n]
  show wpAny _ _ (pure ((n : Int) - 1, (-1 : Int), Builtin.Slice.slicePlaces ((n : Int) - 1) (-1) (-1))) _ _ s
  rw [back_places]
  exact wpAny_pure h
theorem back_pick (xs : Array Value) : ((List.range xs.size).filterMap fun (m : Nat) => xs[((xs.size : Int) - 1 + (m : Int) * (-1)).toNat]?).toArray = xs.toList.reverse.toArray := by
  congr 1
  have e : ∀ n, n ≤ xs.size → (List.range n).filterMap (fun (m : Nat) => xs[((xs.size : Int) - 1 + (m : Int) * (-1)).toNat]?) = xs.toList.reverse.take n := by
    intro n
    induction n with
    | zero => intro _; simp
    | succ n ih =>
      intro hn
      rw [List.range_succ, List.filterMap_append, ih (by omega)]
      have e1 : ((xs.size : Int) - 1 + (n : Int) * (-1)).toNat = xs.size - 1 - n := by omega
      have hlt : n < xs.toList.reverse.length := by rw [List.length_reverse, Array.length_toList]; omega
      rw [List.take_succ_eq_append_getElem hlt]
      congr 1
      simp only [List.filterMap_cons, List.filterMap_nil, e1]
      rw [Array.getElem?_eq_getElem (by omega)]
      simp only [List.getElem_reverse, Array.getElem_toList, Array.length_toList]
  have := e xs.size (Nat.le_refl _)
  rw [this]
  exact List.take_of_length_le (by simp)
theorem getItem_tuple_back {t sl : Addr} {items : Array Value} {vl vu vs : Value} {Q : Value → Shared → Prop} (ht : IsTup s.heap t items) (hs : s.heap.IsSliceOf sl vl vu vs) (pl : IsPart vl none) (pu : IsPart vu none) (ps : IsPart vs (some (-1)))
    (h : Q (.ref s.heap.objs.size) { s with heap := s.heap.push { cls := .type "tuple", data := .seq items.toList.reverse.toArray } }) (hsz : items.size ≤ sizeLine) : wpAny (model prog w) A (getItem (.ref t) (.ref sl)) Q E s := by
  have fits : sizeOk (.seq items.toList.reverse.toArray) := by
    show items.toList.reverse.toArray.size ≤ sizeLine
    simpa using hsz
  obtain ⟨os, hos, hcs, hds⟩ := id hs
  have hTs : s.TypeIs (.ref sl) "slice" := ⟨os, hos, hcs⟩
  unfold getItem
  try with_reducible refine wpAny_holding ?_
  first | refine wpAny_bind (wpAny_pure ?_) | skip
  refine wpAny_bind (wpAny_sequenceKey ht.typeIs (by decide) ?_)
  refine wpAny_bind (wpAny_callSpecial?_slot (name := Str.ofString "__getitem__") ht.typeIs PyProof.Rows.slot_tuple_getitem
    (wpAny_call_entry PyProof.Rows.slot_tuple_getitem ht.typeIs entry_tuple_getitem ?_ (args_tuple_getitem _ _)))
  show wpAny _ _ (Builtin.Tuple.tupleItemsOf (.ref t) >>= _) _ _ s
  refine wpAny_bind (tupleItemsOf_ ht ?_)
  refine wpAny_bind (wpAny_typeOf hTs ?_)
  rw [if_pos (by decide)]
  refine wpAny_bind (back_applied hs pl pu ps ?_)
  have no : ¬ ((((items.size : Int) - 1) == 0 && (-1 : Int) == 1 && items.size == items.size) = true) := by
    have : ((-1 : Int) == 1) = false := by decide
    rw [this]
    simp
  show wpAny _ _ (if ((((items.size : Int) - 1) == 0 && (-1 : Int) == 1 && items.size == items.size) = true) then _ else _) _ _ s
  rw [if_neg no, back_pick]
  first
    | exact wpAny_bind (m := Builtin.Tuple.tupleExact _) (wpAny_newObj_type (wpAny_pure ⟨_, rfl, wpAny_pure h⟩) fits)
    | exact wpAny_bind (m := Builtin.Tuple.tupleExact _) (wpAny_newObj_type (wpAny_bind (wpAny_pure (wpAny_pure ⟨_, rfl, wpAny_pure h⟩))) fits)
    | exact wpAny_bind (wpAny_bind (m := Builtin.Tuple.tupleExact _) (wpAny_newObj_type (wpAny_pure (wpAny_pure ⟨_, rfl, wpAny_pure h⟩)) fits))
    | exact wpAny_bind (wpAny_bind (m := Builtin.Tuple.tupleExact _) (wpAny_newObj_type (wpAny_pure ⟨_, rfl, wpAny_pure h⟩) fits))
end
section
variable {X : Cx}
/-- a list or a tuple, turned round -/
def tRevA (K : Fg) (te : TE) : TE := fun σ H Q => te σ H fun x H1 => (∃ a xs, x = .ref a ∧ SqL K H1 a xs ∧ ∀ p, H1 p = none → Q (.ref p) (upd H1 p (.lst xs.reverse))) ∨ ∃ a xs, x = .ref a ∧ SqT K H1 a xs ∧ NewT H1 xs.reverse Q
theorem pe_revA {e : Expr} {te : TE} {k : Nat} {p1 p2 p3 pos : Pos} (he : PE X e te) : PE X (.Subscript e (.Slice none none (some (.UnaryOp .USub (.Constant (.int 1) k p1) p2)) p3) pos) (tRevA X.K te) := by
  refine ⟨fun pins s σ H Q I h => ?_⟩
  refine Subscript_ (thn (he.run pins s σ H _ I h) fun v s1 ⟨x, H1, I1, r1, q1⟩ => ?_)
  have hst : PO X (some (.UnaryOp .USub (.Constant (.int 1) k p1) p2)) (tPart (tUn (rU fun i => .int (-i)) (tC (.int 1)))) := po_some (pe_un un_neg pe_int)
  refine wpAny_Slice (thn (po_none.run pins s1 σ H1 (fun o H2 => o = none ∧ H2 = H1) I1 ⟨rfl, rfl⟩) fun vl s2 ⟨l, H2, I2, pl, el, e2⟩ => ?_)
  subst el e2
  refine thn (po_none.run pins s2 σ H2 (fun o H3 => o = none ∧ H3 = H2) I2 ⟨rfl, rfl⟩) fun vu s3 ⟨u, H3, I3, pu, eu, e3⟩ => ?_
  subst eu e3
  refine thn (hst.run pins s3 σ H3 (fun o H4 => o = some (-1) ∧ H4 = H3) I3 ⟨1, rfl, -1, rfl, rfl, rfl⟩) fun vs s4 ⟨o, H4, I4, ps, eo, e4⟩ => ?_
  subst eo e4
  have I5 : Inv X pins σ H4 { s4 with heap := s4.heap.push { cls := .type "slice", data := .fields #[vl, vu, vs] } } := I4.kept (t' := s4.toks) fun b ob q => Heap.get?_push_of_some _ q
  rcases q1 with ⟨a, xs, rfl, hx, q⟩ | ⟨a, xs, rfl, hx, q⟩
  · cases r1
    obtain ⟨its, r, ht, hz⟩ := I5.list hx
    have hlen := r.length
    show wpAny (model X.prog X.w) X.A (subscriptTail e (.Slice none none (some (.UnaryOp .USub (.Constant (.int 1) k p1) p2)) p3) (.ref a) (.ref s4.heap.objs.size)) (EP X pins σ Q) X.xe { s4 with heap := s4.heap.push { cls := .type "slice", data := .fields #[vl, vu, vs] } }
    refine tail_any (ops := [.ref a, .ref s4.heap.objs.size]) ht.isList.typeIs (PySem.slot_list_getitem.lookup) ?_ (by with_unfolding_all rfl)
    refine wpAny_getItem_list_slice ht.isList (Heap.IsSliceOf.new _ vl vu vs) pl pu ps (by decide) ?_ (by rw [List.size_toArray]; omega)
    rw [PySem.W.krv_pick]
    refine ⟨.ref _, _, I5.laid (t' := s4.toks) (o := .lst xs.reverse) (fun b ob q => Heap.get?_push_of_some _ q) (Nat.le_refl _) ?_, rfl, q _ (I5.hok.fresh (Nat.le_refl _))⟩
    exact ⟨by rw [List.length_reverse]; exact hz, _, 0, r.reverse, Heap.get?_push_size _ rfl⟩
  · cases r1
    obtain ⟨its, r, ht, hz⟩ := I5.tuple hx
    have hlen := r.length
    show wpAny (model X.prog X.w) X.A (subscriptTail e (.Slice none none (some (.UnaryOp .USub (.Constant (.int 1) k p1) p2)) p3) (.ref a) (.ref s4.heap.objs.size)) (EP X pins σ Q) X.xe { s4 with heap := s4.heap.push { cls := .type "slice", data := .fields #[vl, vu, vs] } }
    refine tail_any (ops := [.ref a, .ref s4.heap.objs.size]) ht.typeIs (PyProof.Rows.slot_tuple_getitem.lookup) ?_ (by with_unfolding_all rfl)
    refine getItem_tuple_back ht (Heap.IsSliceOf.new _ vl vu vs) pl pu ps ?_ (by rw [List.size_toArray]; omega)
    exact laidT I5 (by rw [List.length_reverse]; exact hz) r.reverse q (t' := s4.toks)
/-- a tuple that is written -/
def tTupF (t : TA) : TE := fun σ H Q => t σ H fun xs H1 => xs.length ≤ sizeLine ∧ NewT H1 xs Q
theorem pe_tupF {es : List Expr} {t : TA} {x1 : Nat} {pos : Pos} (h : PA X es t) : PE X (.Tuple es x1 pos) (tTupF t) := by
  refine ⟨fun pins s σ H Q I hq => ?_⟩
  refine wpAny_Tuple_spliced (thn (h.run pos pins s σ H _ I hq) fun us s1 ⟨xs, H1, I1, r, z, q⟩ => ⟨by rw [← r.length]; exact z, ?_⟩)
  exact laidT I1 z r q (t' := s1.toks)
/-- an empty dict, for keys that are tuples -/
def tNewN : TE := fun _ H Q => ∀ p, H p = none → Q (.ref p) (upd H p (dN p []))
theorem pe_newN {pos : Pos} : PE X (.Dict [] [] pos) tNewN := ⟨fun pins s σ H Q I h => wpAny_Dict_empty ⟨.ref s.heap.objs.size, _, dn_empty I (t' := s.toks), rfl, h _ (I.hok.fresh (Nat.le_refl _))⟩⟩
/-- a dict of one pair, its key a tuple; the new dict stands empty while the pair is made -/
def tOneN (tk tv : TE) : TE := fun σ H Q => ∀ p, H p = none → tk σ (upd H p (dN p [])) fun x H1 => tv σ H1 fun y H2 => H2 p = some (dN p []) ∧ ∃ q b, x = .ref b ∧ KOk H2 q b ∧ Q (.ref p) (upd H2 p (dN p [(q, b, y)]))
theorem pe_oneN {k v : Expr} {tk tv : TE} {pos : Pos} (hu : X.A.units + 9 < cLine) (hk : PE X k tk) (hv : PE X v tv) : PE X (.Dict [some k] [v] pos) (tOneN tk tv) := by
  refine ⟨fun pins s σ H Q I h => ?_⟩
  have hn := I.hok.fresh (Nat.le_refl s.heap.objs.size)
  have I1 := dn_empty I (t' := s.toks)
  have pp : PPs X pos [some k] [v] [(tk, tv)] := pps_cons hk hv pps_nil
  refine wpAny_Dict_any rfl rfl (by simp) (by show 1 ≤ 15; decide) (thn (pp.run pins _ σ _ (fun ps H2 => ∃ x y, ps = [(x, y)] ∧ H2 s.heap.objs.size = some (dN s.heap.objs.size []) ∧ ∃ q b, x = .ref b ∧ KOk H2 q b ∧ Q (.ref s.heap.objs.size) (upd H2 s.heap.objs.size (dN s.heap.objs.size [(q, b, y)]))) I1 ?_) fun ws s2 ⟨ps, H2, I2, rel, x, y, e, e2, q, b, ex, kq, hQ⟩ => ?_)
  · show tk σ _ fun x H1 => tv σ H1 fun y H2 => _
    refine cast (congrArg (tk σ _) ?_) (h _ hn)
    funext x H1
    refine congrArg (tv σ H1) ?_
    funext y H2
    refine propext ⟨fun ⟨a, q, b, c, d, f⟩ => ⟨x, y, rfl, a, q, b, c, d, f⟩, fun ⟨x', y', exy, a, q, b, c, d, f⟩ => ?_⟩
    cases exy
    exact ⟨a, q, b, c, d, f⟩
  · subst e
    subst ex
    cases rel with
    | @cons _ w2 _ _ r1 r2 =>
      cases r2
      obtain ⟨w1, w2⟩ := w2
      obtain ⟨g1, g2⟩ := r1
      obtain rfl : w1 = Value.ref b := g1
      have kk : KsOk H2 [] := fun x hx => by cases hx
      obtain ⟨hz, hs, us, rr, dd⟩ := dn_of I2 e2 kk
      cases rr
      refine wpAny_storeAllH (knd := nestedKind X.prog X.w) (show X.A.units + 8 < cLine by omega) [(.ref b, w2)] [(q, b, w2)] [] s2 _ ⟨rfl, rfl, kq.is I2, trivial⟩ dd (by show 0 + 1 ≤ sizeLine; decide) fun h' tk dd' hb => ?_
      have hh : ∃ p, h'.get? s.heap.objs.size = some p := let ⟨p, _, _, hp, _⟩ := dd'; ⟨p, hp⟩
      refine ⟨.ref s.heap.objs.size, _, d_write I2 (by rw [e2]; exact True.intro) hb hh (dn_new (us := [(q, b, w2)]) (by show 1 ≤ sizeLine; decide) hs (.cons ⟨rfl, rfl, g2⟩ .nil) (fun x hx => ?_) ?_), rfl, hQ⟩
      · cases List.mem_singleton.mp hx
        exact kq.2.1
      · exact dd'
end
end Ez

/-! E3a: enumerate of a tuple -/
namespace Ez
open PySem PySem.Spec PyProof.Rows L2
theorem meets_enum1 {v : Value} {o : Obj} {H : Heap → Prop} (B : Begins v o H) :
    Meets (Builtin.«enumerate.__new__» ⟨[.type "enumerate", v], []⟩) (fun _ R s => H s.heap ∧
      R (.ok (.ret (.ref (s.heap.push o).objs.size)))
        { s with heap := (s.heap.push o).push { cls := .type "enumerate", data := .fields #[.none, .bool false, .ref s.heap.objs.size, rawInt 0, .none, .none] } }) :=
  .of_wp fun prog w A R s h => by
    obtain ⟨hp, g, d, tk, os⟩ := s
    obtain ⟨h0, h⟩ := h
    have hsub := sub_enumerate
    have q1 : ∀ (A : Around) (E : Value → Shared → Prop) (Q : Value → Shared → Prop), Q (.ref hp.objs.size) ⟨hp.push o, g, d, tk, os⟩ → wpAny (model prog w) A (pyIter v) Q E ⟨hp, g, d, tk, os⟩ := fun A E Q q => B.iter prog w A E ⟨hp, g, d, tk, os⟩ Q h0 q
    wp_walk
    refine wpAny_stack_any fun st => wpAny_pure ?_
    split
    · rename_i c _ _ _ _ _
      cases (c == Value.type "enumerate")
      · wp_walk using q1
        exact ⟨_, rfl, h⟩
      · wp_walk using q1
        exact ⟨_, rfl, h⟩
    · wp_walk using q1
      exact ⟨_, rfl, h⟩
theorem enum1_begins {prog : Program} {w : World} {A : Around} {E : Value → Shared → Prop} {s : Shared} {v : Value} {o : Obj} {H : Heap → Prop} {Q : Value → Shared → Prop} (B : Begins v o H) (h1 : H s.heap)
    (h : ∀ h', IsEnum h' (s.heap.objs.size + 1) s.heap.objs.size 0 .none → h'.get? s.heap.objs.size = some o → h'.objs.size = s.heap.objs.size + 2 →
      (∀ b o, s.heap.get? b = some o → h'.get? b = some o) → Q (.ref (s.heap.objs.size + 1)) { s with heap := h' }) :
    wpAny (model prog w) A (call (.type "enumerate") [v]) Q E s := by
  refine callType_new F.called_enumerate (by decide) (F.typeCall_enumerate_1 _) (F.newCall_enumerate_1 _) (fun obj => F.args_object_init_2 obj _) F.entry_enumerate_new
    (meets_enum1 B) ⟨h1, ?_⟩
  have hz : (s.heap.push o).objs.size = s.heap.objs.size + 1 := Heap.size_push ..
  show _ ∧ _
  rw [hz]
  have he : IsEnum ((s.heap.push o).push { cls := .type "enumerate", data := .fields #[.none, .bool false, .ref s.heap.objs.size, rawInt 0, .none, .none] }) (s.heap.objs.size + 1) s.heap.objs.size 0 .none := by
    have := Heap.get?_push_size (s.heap.push o) (o := { cls := .type "enumerate", data := .fields #[.none, .bool false, .ref s.heap.objs.size, rawInt 0, .none, .none] }) rfl
    rw [hz] at this; exact this
  refine ⟨⟨_, he, rfl⟩, h _ he (Heap.get?_push_of_some _ (Heap.get?_push_size _ B.free)) (by rw [Heap.size_push, hz]) fun b o x => Heap.get?_push_of_some _ (Heap.get?_push_of_some _ x)⟩
/-- the tuple at a, each item in a new pair -/
def IteT (K : Fg) (a : Addr) : It :=
  ⟨fun i H => ∃ (xs : List V) (x : V), SqT K H a xs ∧ xs[i]? = some x, fun i H v H' => ∃ T x, v = .ref T ∧ H T = none ∧ H' = upd H T (.tup [.int (i : Nat), x]) ∧ ∀ xs, SqT K H a xs → xs[i]? = some x, fun i H => ∃ xs : List V, SqT K H a xs ∧ xs.length ≤ i⟩
theorem turn_enumT {P : Program} {w : World} {K : Fg} {elts : List Expr} {kk : Nat} {tpos : Pos} (a e it : Addr) :
    Turn P w K (.Tuple elts kk tpos) (IteT K a) [e, it] e (fun i h => (∃ old, IsEnum h e it ((i : Nat) : Int) old) ∧ h.IsTupleIter it a i ∧ e ≠ it) where
  mem := by simp
  obj := fun i h st b hb => by
    obtain ⟨⟨old, he⟩, ⟨o, ho, hc, hd⟩, _⟩ := st
    have e' : b = e ∨ b = it := by simpa using hb
    rcases e' with z | z
    · rw [z]; exact ⟨_, he, fun v q => nomatch q⟩
    · rw [z]; exact ⟨o, ho, fun v q => by rw [hd] at q; cases q⟩
  keep := fun i h h' st k => let ⟨⟨old, he⟩, hi, hne⟩ := st; ⟨⟨old, k e (by simp) _ he⟩, hi.at fun o q => k it (by simp) o q, hne⟩
  item := by
    intro X hP hw hK hc i pins s σ H E I hf st hg
    subst hP hw hK
    obtain ⟨⟨old, he⟩, hit, hne⟩ := st
    obtain ⟨xs, x, hq, hx⟩ := hg
    obtain ⟨its, rv, p, hz⟩ := I.tuple hq
    obtain ⟨u, hu, ru⟩ := rv.get hx
    have hel : e < s.heap.objs.size := Heap.lt_size he
    have hil : it < s.heap.objs.size := by obtain ⟨_, q, _⟩ := hit; exact Heap.lt_size q
    have hai : a ≠ it := fun z => by
      obtain ⟨o, ho, hc, _⟩ := hit
      obtain ⟨o2, ho2, hc2, _⟩ := p
      rw [z, ho] at ho2
      cases ho2
      rw [hc] at hc2
      exact absurd hc2 (by decide)
    have hea : e ≠ a := fun z => by
      obtain ⟨o2, ho2, hc2, _⟩ := p
      have he' : s.heap.get? e = some _ := he
      rw [z, ho2] at he'
      cases he'
      have q : (Value.type "enumerate") = .type "tuple" := hc2
      exact absurd q (by decide)
    have hlt : i < its.toArray.size := by
      have := (List.getElem?_eq_some_iff.mp hu).1
      simpa using this
    refine wpAny_pyNext_enum_itemC (Draws.tuple (A := X.A.in1) (I.ok.hd hc) it a hai its.toArray) he ⟨hit, p⟩ hlt hne (by simp [hne, hea]) fun u' h' tk hP ho hst' hT hsz hk => ?_
    obtain rfl : u = u' := by
      have h1 : its[i]? = some u' := by simpa using hP
      rw [hu] at h1
      cases h1
      rfl
    obtain ⟨hit', _⟩ := hst'
    refine ⟨_, rfl, wpAny_letOwnedTupleGo_enum (s := { s with heap := h', toks := tk + 1 }) ho fun h'' he' sb => ?_⟩
    have hT2 : h''.get? s.heap.objs.size = some { cls := .type "tuple", data := .seq #[.int i tk, u] } := (sb.2 _ (Nat.ne_of_gt hel)).trans hT
    have new : ObjOk X.prog X.w (upd H s.heap.objs.size (.tup [.int (i : Nat), x])) h'' s.heap.objs.size (.tup [.int (i : Nat), x]) :=
      ⟨by show 2 ≤ sizeLine; decide, [.int i tk, u], .cons ⟨_, rfl⟩ (.cons ru .nil), ⟨_, hT2, rfl, _, rfl⟩⟩
    have I1 : Inv X pins σ (upd H s.heap.objs.size (.tup [.int (i : Nat), x])) { s with heap := h'', toks := tk + 1 } :=
      I.turnedNew (ch := [e, it]) (fun b ob hb q => (sb.2 b (fun z => hb (by simp [z]))).trans (hk b ob (fun z => hb (by simp [z])) (fun z => hb (by simp [z])) q)) hf (Nat.le_refl _) new
    refine ⟨.ref s.heap.objs.size, _, I1, rfl, ⟨_, x, rfl, I.hok.fresh (Nat.le_refl _), rfl, fun ys hy => by rw [I.tuple_inj hy hq]; exact hx⟩, ⟨⟨u, ?_⟩, hit'.at fun o q => (sb.2 it (Ne.symm hne)).trans q, hne⟩, fun b hb => ?_⟩
    · have e1 : ((i + 1 : Nat) : Int) = (i : Int) + 1 := by omega
      rw [e1]; exact he'
    · have hb' : b < s.heap.objs.size := by
        have e' : b = e ∨ b = it := by simpa using hb
        rcases e' with z | z
        · rw [z]; exact hel
        · rw [z]; exact hil
      rw [upd_ne (Nat.ne_of_lt hb')]
      exact (hf b hb).1
  done := by
    intro X hP hw hK hc i pins s σ H E I hf st hg
    subst hP hw hK
    obtain ⟨⟨old, he⟩, hit, hne⟩ := st
    obtain ⟨xs, hq, hx⟩ := hg
    obtain ⟨its, rv, p, hz⟩ := I.tuple hq
    obtain ⟨f0, f1, f2, f3, f4, f5⟩ := hf it (by simp)
    have hl := rv.length
    have hT : s.TypeIs (.ref e) "enumerate" := ⟨_, he, rfl⟩
    unfold pyNext
    refine wpAny_bind (wpAny_attempt (wpAny_callSpecial?_slot (name := Str.ofString "__next__") hT F.slot_enumerate_next
      (wpAny_call_entry F.slot_enumerate_next hT F.entry_enumerate_next ?_ (F.args_enumerate_next_1 _))))
    show wpAny _ _ (field (.ref e) 2 >>= _) _ _ _
    refine wpAny_bind (wpAny_field he rfl (x := .ref it) rfl ?_)
    have hh : X.A.in1.handled = none := I.ok.hd hc
    refine wpAny_bind (wpAny_nextOf_tuple_end hh hit p (by simp; omega) fun h' x he' hx' => ?_)
    obtain ⟨o, ho, hc⟩ := hx'
    refine wpAny_bind (wpAny_isInstance (T := "StopIteration") (b := true) ⟨o, ho, hc⟩ isSubtype_stop ?_)
    exact wpAny_pure ⟨rfl, I.turned (t' := s.toks) (fun b o hb q => he' b o hb q) f0 f1 f3 f4 f5⟩
  self := fun A i s Q E st h => let ⟨⟨_, he⟩, _⟩ := st; wpAny_pyIter_enum he h
/-- a list or a tuple -/
def iEnumA (K : Fg) (ta : TA) : TI := fun σ H R => ta σ H fun vs H1 => ∃ a xs, vs = [.ref a] ∧ ((SqL K H1 a xs ∧ R (Ite K a) H1) ∨ (SqT K H1 a xs ∧ R (IteT K a) H1))
theorem pi_enumA {X : Cx} {e : Expr} {ta : TA} {p pos tpos : Pos} {elts : List Expr} {kk : Nat} (hg : Gl X "enumerate") (hm : X.mg "enumerate" = none) (ha : PA X [e] ta) (hs : starEach [e] X.env = [(false, eval e X.env)]) :
    PI X (.Tuple elts kk tpos) (.Call (.Name "enumerate" p) [e] [] pos) (iEnumA X.K ta) := by
  refine ⟨fun pins s σ H R I h => ?_⟩
  refine Call_ (ld_blt I hg hm boot_enumerate (PyProof.Rows.callWith_type1 (thn (ha.run pos pins s σ H _ I h) fun us s1 ⟨vs, H1, I1, r1, q1⟩ => ?_) hs rfl))
  obtain ⟨a, xs, ex, q1⟩ := q1
  subst ex
  cases r1 with
  | cons r rr =>
    cases rr
    cases r
    have fp : ∀ b ∈ [s1.heap.objs.size + 1, s1.heap.objs.size], FpOk X pins H1 b := fun b hb => by
      have e' : b = s1.heap.objs.size + 1 ∨ b = s1.heap.objs.size := by simpa using hb
      have hle : s1.heap.objs.size ≤ b := by
        rcases e' with z | z
        · rw [z]; exact Nat.le_add_right _ _
        · rw [z]; exact Nat.le_refl _
      exact I1.fpOk hle (I1.hok.fresh hle)
    rcases q1 with ⟨hq, q⟩ | ⟨hq, q⟩
    · obtain ⟨its, rv, p', hz⟩ := I1.list hq
      refine call_enumerate_list p'.isList fun h' he hit hsz hk => wpAny_pyIter_enum he ?_
      have I2 : Inv X pins σ H1 { s1 with heap := h' } := I1.kept (t' := s1.toks) hk
      exact ⟨s1.heap.objs.size + 1, [s1.heap.objs.size + 1, s1.heap.objs.size], _, _, H1, rfl, I2, turn_enum a (s1.heap.objs.size + 1) s1.heap.objs.size, ⟨⟨.none, he⟩, hit, Nat.succ_ne_self _⟩, fp, q⟩
    · obtain ⟨its, rv, p', hz⟩ := I1.tuple hq
      refine enum1_begins (begins_tuple a its.toArray) p' fun h' he hit hsz hk => wpAny_pyIter_enum he ?_
      have I2 : Inv X pins σ H1 { s1 with heap := h' } := I1.kept (t' := s1.toks) hk
      exact ⟨s1.heap.objs.size + 1, [s1.heap.objs.size + 1, s1.heap.objs.size], _, _, H1, rfl, I2, turn_enumT a (s1.heap.objs.size + 1) s1.heap.objs.size, ⟨⟨.none, he⟩, ⟨_, hit, rfl, rfl⟩, Nat.succ_ne_self _⟩, fp, q⟩
end Ez

/-! E3: what a loop walks -/
namespace Ez
open PySem PySem.Spec PyProof.Rows L2
inductive SrcR (K : Fg) (m : List Addr) (H : Hp) : Src → It → Nat → Prop
  | tup {a : Addr} {xs : List D} {vs : List V} {i : Nat} (e : Tp H a vs) (r : Rls K m H xs (vs.drop i)) : SrcR K m H (.it xs) (Itt K a) i
  | rng {lo b : Int} {n i k : Nat} (e : i + k = n) (eb : b = lo + i) : SrcR K m H (.it (rngs b k)) (Itr lo n) i
  | rgc {lo b c : Int} {n i k : Nat} (e : i + k = n) (eb : b = lo + i * c) : SrcR K m H (.it (rngc b c k)) (Itc lo c n) i
  | str {s t : List Nat} {i : Nat} (e : t = s.drop i) : SrcR K m H (.it (signs t)) (Its ⟨s.toArray⟩) i
  | dy {a : Addr} {n i : Nat} (e : m[n]? = some a) : SrcR K m H (.dy n i) (Itl K a) i
  | en {a : Addr} {n i : Nat} (e : m[n]? = some a) : SrcR K m H (.en n i) (Ite K a) i
  | enT {a : Addr} {xs : List D} {vs : List V} {i : Nat} (e : Tp H a vs) (r : Rls K m H xs (vs.drop i)) : SrcR K m H (.it (numb i xs)) (IteT K a) i
  | zp {a b : Addr} {n k i : Nat} (e : m[n]? = some a) (e2 : m[k]? = some b) : SrcR K m H (.zp n k i) (Itz K a b) i
  | zpT {a b : Addr} {xs ys : List D} {vs ws : List V} {i : Nat} (e : Tp H a vs) (e2 : Tp H b ws) (r : Rls K m H xs (vs.drop i)) (r2 : Rls K m H ys (ws.drop i)) : SrcR K m H (.it (zips xs ys)) (RZ.ItzT K a b) i
section
variable {K : Fg} {m m' : List Addr} {h h' : Hh} {H H' : Hp} {src src' : Src} {J : It} {i : Nat} {x : D} {v : V}
theorem SrcR.mono (S : SrcR K m H src J i) (R : Hr K m h H) (e : Ext m m' H H') : SrcR K m' H' src J i := by
  cases S with
  | tup q r => exact .tup ((e.tup R).1 _ _ q) (e.rls R r)
  | rng q eb => exact .rng q eb
  | rgc q eb => exact .rgc q eb
  | str q => exact .str q
  | dy q => exact .dy (e.ix _ _ q)
  | en q => exact .en (e.ix _ _ q)
  | enT q r => exact .enT ((e.tup R).1 _ _ q) (e.rls R r)
  | zp q q2 => exact .zp (e.ix _ _ q) (e.ix _ _ q2)
  | zpT q q2 r r2 => exact .zpT ((e.tup R).1 _ _ q) ((e.tup R).1 _ _ q2) (e.rls R r) (e.rls R r2)
theorem drop_cons {α : Type} {vs r : List α} {v : α} {i : Nat} (e : vs.drop i = v :: r) : vs[i]? = some v ∧ vs.drop (i + 1) = r := by
  have h1 : vs[i]? = (vs.drop i)[0]? := by simp
  have h2 : vs.drop (i + 1) = (vs.drop i).drop 1 := by rw [List.drop_drop]
  rw [h1, h2, e]
  exact ⟨rfl, rfl⟩
theorem drop_nil {α : Type} {vs : List α} {i : Nat} (e : vs.drop i = []) : vs.length ≤ i := by
  have := congrArg List.length e
  simp at this
  omega
/-- a list of the heap is no object of the written part as well: what is read there is one -/
theorem getL_sq {n : Nat} {a : Addr} {xs : List D} (R : Hr K m h H) (e : getL h n = some xs) (ha : m[n]? = some a) : ∃ vs, SqL K H a vs ∧ Rls K m H xs vs := by
  obtain ⟨b, vs, e1, e2, q, r⟩ := getL_ok R e (show Rl K m H (.ref n) (.ref a) from ⟨a, rfl, ha⟩)
  cases e1
  exact ⟨vs, q, r⟩
theorem SrcR.stop (S : SrcR K m H src J i) (R : Hr K m h H) (e : next h src = some none) : J.stop i H := by
  cases S with
  | @tup a xs vs _ q r =>
    cases xs with
    | nil => simp only [Rls] at r; exact ⟨vs, q.sq, drop_nil r⟩
    | cons x xs => simp [next] at e
  | @rng lo b n _ k q eb =>
    cases k with
    | zero => show n ≤ i; omega
    | succ k => simp [next, rngs] at e
  | @rgc lo b c n _ k q eb =>
    cases k with
    | zero => show n ≤ i; omega
    | succ k => simp [next, rngc] at e
  | @str s t _ q =>
    cases t with
    | nil =>
      show s.toArray.size ≤ i
      rw [List.size_toArray]
      exact drop_nil q.symm
    | cons c t => simp [next, signs] at e
  | dy q =>
    simp only [next] at e
    obtain ⟨xs, e1, e⟩ := bnd e
    obtain ⟨vs, hq, r⟩ := getL_sq R e1 q
    refine ⟨vs, hq, ?_⟩
    rw [r.length]
    split at e
    · cases e
    · rename_i hx
      exact List.getElem?_eq_none_iff.mp hx
  | en q =>
    simp only [next] at e
    obtain ⟨xs, e1, e⟩ := bnd e
    obtain ⟨vs, hq, r⟩ := getL_sq R e1 q
    refine ⟨vs, hq, ?_⟩
    rw [r.length]
    split at e
    · cases e
    · rename_i hx
      exact List.getElem?_eq_none_iff.mp hx
  | @enT a xs vs _ q r =>
    cases xs with
    | nil => simp only [Rls] at r; exact ⟨vs, q.sq, drop_nil r⟩
    | cons x xs => simp [next, numb] at e
  | zp q q2 =>
    simp only [next] at e
    obtain ⟨xs, e1, e⟩ := bnd e
    obtain ⟨ys, e2, e⟩ := bnd e
    obtain ⟨vs, hq, r⟩ := getL_sq R e1 q
    obtain ⟨ws, hq2, r2⟩ := getL_sq R e2 q2
    refine ⟨vs, ws, hq, hq2, ?_⟩
    rw [r.length, r2.length]
    split at e
    · cases e
    · rename_i hn
      cases hx : xs[i]? with
      | none => exact .inl (List.getElem?_eq_none_iff.mp hx)
      | some x =>
        cases hy : ys[i]? with
        | none => exact .inr (List.getElem?_eq_none_iff.mp hy)
        | some y => exact (hn x y hx hy).elim
  | @zpT a b xs ys vs ws _ q q2 r r2 =>
    refine ⟨vs, ws, q.sq, q2.sq, ?_⟩
    cases xs with
    | nil => simp only [Rls] at r; exact .inl (drop_nil r)
    | cons x xs =>
      cases ys with
      | nil => simp only [Rls] at r2; exact .inr (drop_nil r2)
      | cons y ys => simp [next, zips] at e
end
/-- what the next turn gives: the heap grows at most by a tuple -/
structure NextR (K : Fg) (m : List Addr) (h : Hh) (H : Hp) (x : D) (src' : Src) (J : It) (i : Nat) : Prop where
  go : J.go i H
  yld : ∀ v H', J.yld i H v H' → Ext m m H H' ∧ Hr K m h H' ∧ Rl K m H' x v ∧ SrcR K m H' src' J (i + 1)
section
variable {K : Fg} {m : List Addr} {h : Hh} {H : Hp} {src src' : Src} {J : It} {i : Nat} {x : D}
theorem SrcR.next (S : SrcR K m H src J i) (R : Hr K m h H) (e : Ez.next h src = some (some (x, src'))) : NextR K m h H x src' J i := by
  cases S with
  | @tup a xs vs _ q r =>
    cases xs with
    | nil => simp [Ez.next] at e
    | cons y xs =>
      simp only [Ez.next, Option.some.injEq, Prod.mk.injEq] at e
      obtain ⟨rfl, rfl⟩ := e
      simp only [Rls] at r
      obtain ⟨w, t, e1, r1, r2⟩ := r
      obtain ⟨g1, g2⟩ := drop_cons e1
      refine ⟨⟨vs, w, q.sq, g1⟩, fun v H' ⟨e2, e3⟩ => ?_⟩
      subst e2
      have e4 := e3 vs (q.sq)
      rw [g1] at e4
      cases e4
      exact ⟨Ext.refl, R, r1, .tup q (by rw [g2]; exact r2)⟩
  | @rng lo b n _ k q eb =>
    cases k with
    | zero => simp [Ez.next, rngs] at e
    | succ k =>
      simp only [Ez.next, rngs, Option.some.injEq, Prod.mk.injEq] at e
      obtain ⟨rfl, rfl⟩ := e
      refine ⟨(show i < n by omega), fun v H' ⟨e2, e3⟩ => ?_⟩
      subst e2
      subst e3
      exact ⟨Ext.refl, R, by rw [eb]; exact rfl, .rng (by omega) (by rw [eb]; simp; omega)⟩
  | @rgc lo b c n _ k q eb =>
    cases k with
    | zero => simp [Ez.next, rngc] at e
    | succ k =>
      simp only [Ez.next, rngc, Option.some.injEq, Prod.mk.injEq] at e
      obtain ⟨rfl, rfl⟩ := e
      refine ⟨(show i < n by omega), fun v H' ⟨e2, e3⟩ => ?_⟩
      subst e2
      subst e3
      refine ⟨Ext.refl, R, by rw [eb]; exact rfl, .rgc (by omega) ?_⟩
      rw [eb]
      have : ((i + 1 : Nat) : Int) * c = i * c + c := by
        rw [Int.natCast_add, Int.add_mul]
        simp
      rw [this]
      omega
  | @str s t _ q =>
    cases t with
    | nil => simp [Ez.next, signs] at e
    | cons c t =>
      simp only [Ez.next, signs, List.map_cons, Option.some.injEq, Prod.mk.injEq] at e
      obtain ⟨rfl, rfl⟩ := e
      obtain ⟨g1, g2⟩ := drop_cons q.symm
      refine ⟨?_, fun v H' ⟨e2, c', e3, e4⟩ => ?_⟩
      · show i < s.toArray.size
        rw [List.size_toArray]
        exact (List.getElem?_eq_some_iff.mp g1).1
      · subst e2
        have e5 : s[i]? = some c' := by
          have := e3
          simpa using this
        rw [g1] at e5
        cases e5
        subst e4
        exact ⟨Ext.refl, R, rfl, .str g2.symm⟩
  | dy q =>
    simp only [Ez.next] at e
    obtain ⟨xs, e1, e⟩ := bnd e
    obtain ⟨vs, hq, r⟩ := getL_sq R e1 q
    split at e
    · rename_i y hy
      simp only [Option.some.injEq, Prod.mk.injEq] at e
      obtain ⟨rfl, rfl⟩ := e
      obtain ⟨w, hw, rw'⟩ := r.get hy
      refine ⟨⟨vs, w, hq, hw⟩, fun v H' ⟨e2, e3⟩ => ?_⟩
      subst e2
      have e4 := e3 vs hq
      rw [hw] at e4
      cases e4
      exact ⟨Ext.refl, R, rw', .dy q⟩
    · cases e
  | en q =>
    simp only [Ez.next] at e
    obtain ⟨xs, e1, e⟩ := bnd e
    obtain ⟨vs, hq, r⟩ := getL_sq R e1 q
    split at e
    · rename_i y hy
      simp only [Option.some.injEq, Prod.mk.injEq] at e
      obtain ⟨rfl, rfl⟩ := e
      obtain ⟨w, hw, rw'⟩ := r.get hy
      refine ⟨⟨vs, w, hq, hw⟩, fun v H' ⟨T, w2, e2, e3, e4, e5⟩ => ?_⟩
      have e6 := e5 vs hq
      rw [hw] at e6
      cases e6
      subst e2
      subst e4
      refine ⟨Ext.newTup e3, R.newTup e3, ⟨T, _, rfl, upd_same, Rls.cons rfl (Rls.one ((Ext.newTup e3).rl R rw'))⟩, .en q⟩
    · cases e
  | @enT a xs vs _ q r =>
    cases xs with
    | nil => simp [Ez.next, numb] at e
    | cons y xs =>
      simp only [Ez.next, numb, Option.some.injEq, Prod.mk.injEq] at e
      obtain ⟨rfl, rfl⟩ := e
      simp only [Rls] at r
      obtain ⟨w, t, e1, r1, r3⟩ := r
      obtain ⟨g1, g2⟩ := drop_cons e1
      refine ⟨⟨vs, w, q.sq, g1⟩, fun v H' ⟨T, w2, e2, e3, e4, e5⟩ => ?_⟩
      have e6 := e5 vs (q.sq)
      rw [g1] at e6
      cases e6
      subst e2
      subst e4
      have E := Ext.newTup (m := m) (u := .tup [V.int (i : Nat), w]) e3
      exact ⟨E, R.newTup e3, ⟨T, _, rfl, upd_same, Rls.cons rfl (Rls.one (E.rl R r1))⟩, .enT ((E.tup R).1 _ _ q) (by rw [g2]; exact E.rls R r3)⟩
  | zp q q2 =>
    simp only [Ez.next] at e
    obtain ⟨xs, e1, e⟩ := bnd e
    obtain ⟨ys, e2, e⟩ := bnd e
    obtain ⟨vs, hq, r⟩ := getL_sq R e1 q
    obtain ⟨ws, hq2, r2⟩ := getL_sq R e2 q2
    split at e
    · rename_i y z hy hz
      simp only [Option.some.injEq, Prod.mk.injEq] at e
      obtain ⟨rfl, rfl⟩ := e
      obtain ⟨w, hw, rw'⟩ := r.get hy
      obtain ⟨u, hu, ru⟩ := r2.get hz
      refine ⟨⟨vs, ws, w, u, hq, hq2, hw, hu⟩, fun v H' ⟨T, w2, u2, e2, e3, e4, e5, e6⟩ => ?_⟩
      have e7 := e5 vs hq
      rw [hw] at e7
      cases e7
      have e8 := e6 ws hq2
      rw [hu] at e8
      cases e8
      subst e2
      subst e4
      refine ⟨Ext.newTup e3, R.newTup e3, ⟨T, _, rfl, upd_same, Rls.cons ((Ext.newTup e3).rl R rw') (Rls.one ((Ext.newTup e3).rl R ru))⟩, .zp q q2⟩
    · cases e
  | @zpT a b xs ys vs ws _ q q2 r r2 =>
    cases xs with
    | nil => simp [Ez.next, zips] at e
    | cons y xs =>
      cases ys with
      | nil => simp [Ez.next, zips] at e
      | cons z ys =>
        simp only [Ez.next, zips, Option.some.injEq, Prod.mk.injEq] at e
        obtain ⟨rfl, rfl⟩ := e
        simp only [Rls] at r r2
        obtain ⟨w, t, e1, r1, r3⟩ := r
        obtain ⟨u, t2, e2, r4, r5⟩ := r2
        obtain ⟨g1, g2⟩ := drop_cons e1
        obtain ⟨g3, g4⟩ := drop_cons e2
        refine ⟨⟨vs, ws, w, u, q.sq, q2.sq, g1, g3⟩, fun v H' ⟨T, w2, u2, e2, e3, e4, e5, e6⟩ => ?_⟩
        have e7 := e5 vs (q.sq)
        rw [g1] at e7
        cases e7
        have e8 := e6 ws (q2.sq)
        rw [g3] at e8
        cases e8
        subst e2
        subst e4
        have E := Ext.newTup (m := m) (u := .tup [w, u]) e3
        refine ⟨E, R.newTup e3, ⟨T, _, rfl, upd_same, Rls.cons (E.rl R r1) (Rls.one (E.rl R r4))⟩, .zpT ((E.tup R).1 _ _ q) ((E.tup R).1 _ _ q2) (by rw [g2]; exact E.rls R r3) (by rw [g4]; exact E.rls R r5)⟩
end
/-! ### iterables -/
section
variable {X : Cx} {tg : Expr}
/-- a list, a tuple or a text, by its value -/
def iAny (K : Fg) (tl : TE) : TI := fun σ H R => tl σ H fun x H1 => (∃ a, x = .ref a ∧ (∃ xs, SqL K H1 a xs) ∧ R (Itl K a) H1) ∨ (∃ a, x = .ref a ∧ (∃ xs, SqT K H1 a xs) ∧ R (Itt K a) H1) ∨ ∃ z, x = .str z ∧ R (Its z) H1
theorem pi_any {l : Expr} {tl : TE} (hl : PE X l tl) : PI X tg l (iAny X.K tl) := by
  refine ⟨fun pins s σ H R I h => ?_⟩
  refine thn (hl.run pins s σ H _ I h) fun v s1 ⟨x, H1, I1, r1, q1⟩ => ?_
  have one : ∀ {J : It} {it : Addr} {tn : Nat → Heap → Prop} {ob : Obj}, it = s1.heap.objs.size → Turn X.prog X.w X.K tg J [it] it tn → tn 0 (s1.heap.push ob) → R J H1 →
      PIE X pins σ tg R (.ref it) { s1 with heap := s1.heap.push ob } := fun {J it tn ob} ei T t0 q => by
    subst ei
    refine ⟨_, [_], tn, J, H1, rfl, I1.kept (t' := s1.toks) fun b o e => Heap.get?_push_of_some _ e, T, t0, fun b hb => ?_, q⟩
    have e : b = s1.heap.objs.size := by simpa using hb
    rw [e]
    exact I1.fpOk (Nat.le_refl _) (I1.hok.fresh (Nat.le_refl _))
  rcases q1 with ⟨a, rfl, ⟨xs, hq⟩, q⟩ | ⟨a, rfl, ⟨xs, hq⟩, q⟩ | ⟨z, rfl, q⟩
  · cases r1
    obtain ⟨its, rv, p, hz⟩ := I1.list hq
    exact wpAny_pyIter_list p.isList (one rfl (turn_list a _) ⟨_, Heap.get?_push_size _ rfl, rfl, rfl⟩ q)
  · cases r1
    obtain ⟨its, rv, p, hz⟩ := I1.tuple hq
    exact wpAny_pyIter_tuple (show s1.heap.IsTuple a its.toArray from p) (one rfl (turn_tuple a _) ⟨_, Heap.get?_push_size _ rfl, rfl, rfl⟩ q)
  · obtain ⟨t, rfl⟩ := r1
    cases ha : z.cps.all (· < 128)
    · exact wpAny_pyIter_wide ha (one rfl (turn_str _ z t "str_iterator" (.inr rfl)) ⟨_, Heap.get?_push_size _ rfl, rfl, rfl⟩ q)
    · exact wpAny_pyIter_ascii ha (one rfl (turn_str _ z t "str_ascii_iterator" (.inl rfl)) ⟨_, Heap.get?_push_size _ rfl, rfl, rfl⟩ q)
end
end Ez

/-! E4a: the text and the small syntax, side by side -/
namespace Ez
open PySem PySem.Spec PyProof.Rows L2
/-! ### views of expressions -/
def asName : Expr → Option Str
  | .Name x _ => some x
  | _ => none
theorem asName_eq {e : Expr} {x : Str} (h : asName e = some x) : ∃ p, e = .Name x p := by
  cases e <;> simp [asName] at h
  subst h
  exact ⟨_, rfl⟩
def asConst : Expr → Option Const
  | .Constant c _ _ => some c
  | _ => none
theorem asConst_eq {e : Expr} {c : Const} (h : asConst e = some c) : ∃ j p, e = .Constant c j p := by
  cases e <;> simp [asConst] at h
  subst h
  exact ⟨_, _, rfl⟩
def asBin : Expr → Option (Expr × Operator × Expr)
  | .BinOp a o b _ => some (a, o, b)
  | _ => none
theorem asBin_eq {e a b : Expr} {o : Operator} (h : asBin e = some (a, o, b)) : ∃ p, e = .BinOp a o b p := by
  cases e <;> simp [asBin] at h
  obtain ⟨rfl, rfl, rfl⟩ := h
  exact ⟨_, rfl⟩
def asNeg : Expr → Option Expr
  | .UnaryOp .USub a _ => some a
  | _ => none
theorem asNeg_eq {e a : Expr} (h : asNeg e = some a) : ∃ p, e = .UnaryOp .USub a p := by
  cases e with
  | UnaryOp o b p => cases o <;> simp [asNeg] at h; subst h; exact ⟨_, rfl⟩
  | _ => simp [asNeg] at h
def asNot : Expr → Option Expr
  | .UnaryOp .Not a _ => some a
  | _ => none
theorem asNot_eq {e a : Expr} (h : asNot e = some a) : ∃ p, e = .UnaryOp .Not a p := by
  cases e with
  | UnaryOp o b p => cases o <;> simp [asNot] at h; subst h; exact ⟨_, rfl⟩
  | _ => simp [asNot] at h
def asAnd : Expr → Option (List Expr)
  | .BoolOp .And es _ => some es
  | _ => none
theorem asAnd_eq {e : Expr} {es : List Expr} (h : asAnd e = some es) : ∃ p, e = .BoolOp .And es p := by
  cases e with
  | BoolOp o b p => cases o <;> simp [asAnd] at h; subst h; exact ⟨_, rfl⟩
  | _ => simp [asAnd] at h
def asOr : Expr → Option (List Expr)
  | .BoolOp .Or es _ => some es
  | _ => none
theorem asOr_eq {e : Expr} {es : List Expr} (h : asOr e = some es) : ∃ p, e = .BoolOp .Or es p := by
  cases e with
  | BoolOp o b p => cases o <;> simp [asOr] at h; subst h; exact ⟨_, rfl⟩
  | _ => simp [asOr] at h
def asIf : Expr → Option (Expr × Expr × Expr)
  | .IfExp c a b _ => some (c, a, b)
  | _ => none
theorem asIf_eq {e c a b : Expr} (h : asIf e = some (c, a, b)) : ∃ p, e = .IfExp c a b p := by
  cases e <;> simp [asIf] at h
  obtain ⟨rfl, rfl, rfl⟩ := h
  exact ⟨_, rfl⟩
def asCmp : Expr → Option (Expr × List CmpOp × List Expr)
  | .Compare a os es _ => some (a, os, es)
  | _ => none
theorem asCmp_eq {e a : Expr} {os : List CmpOp} {es : List Expr} (h : asCmp e = some (a, os, es)) : ∃ p, e = .Compare a os es p := by
  cases e <;> simp [asCmp] at h
  obtain ⟨rfl, rfl, rfl⟩ := h
  exact ⟨_, rfl⟩
def asTupE : Expr → Option (List Expr)
  | .Tuple es _ _ => some es
  | _ => none
theorem asTupE_eq {e : Expr} {es : List Expr} (h : asTupE e = some es) : ∃ k p, e = .Tuple es k p := by
  cases e <;> simp [asTupE] at h
  subst h
  exact ⟨_, _, rfl⟩
def asLstE : Expr → Option (List Expr)
  | .List es _ => some es
  | _ => none
theorem asLstE_eq {e : Expr} {es : List Expr} (h : asLstE e = some es) : ∃ p, e = .List es p := by
  cases e <;> simp [asLstE] at h
  subst h
  exact ⟨_, rfl⟩
/-- f(a, ..), f a name, no keywords -/
def asCallN : Expr → Option (Str × List Expr)
  | .Call (.Name x _) as [] _ => some (x, as)
  | _ => none
theorem asCallN_eq {e : Expr} {x : Str} {as : List Expr} (h : asCallN e = some (x, as)) : ∃ p q, e = .Call (.Name x p) as [] q := by
  cases e with
  | Call f bs ks p =>
    cases f with
    | Name y q =>
      cases ks with
      | nil => simp [asCallN] at h; obtain ⟨rfl, rfl⟩ := h; exact ⟨_, _, rfl⟩
      | cons k ks => simp [asCallN] at h
    | _ => simp [asCallN] at h
  | _ => simp [asCallN] at h
/-- o.m(a, ..) on one line -/
def asMeth : Expr → Option (Expr × Str × List Expr)
  | .Call (.Attribute o x ap) as [] cp => if (ap.endLine == cp.line) = true then some (o, x, as) else none
  | _ => none
theorem asMeth_eq {e o : Expr} {x : Str} {as : List Expr} (h : asMeth e = some (o, x, as)) : ∃ p q, e = .Call (.Attribute o x p) as [] q ∧ (p.endLine == q.line) = true := by
  cases e with
  | Call f bs ks p =>
    cases f with
    | Attribute y q r =>
      cases ks with
      | nil =>
        simp only [asMeth] at h
        split at h
        · rename_i hl
          simp only [Option.some.injEq, Prod.mk.injEq] at h
          obtain ⟨rfl, rfl, rfl⟩ := h
          exact ⟨_, _, rfl, hl⟩
        · cases h
      | cons k ks => simp [asMeth] at h
    | _ => simp [asMeth] at h
  | _ => simp [asMeth] at h
def asSubE : Expr → Option (Expr × Expr)
  | .Subscript a b _ => some (a, b)
  | _ => none
theorem asSubE_eq {e a b : Expr} (h : asSubE e = some (a, b)) : ∃ p, e = .Subscript a b p := by
  cases e <;> simp [asSubE] at h
  obtain ⟨rfl, rfl⟩ := h
  exact ⟨_, rfl⟩
def asSlc : Expr → Option (Option Expr × Option Expr)
  | .Slice lo hi none _ => some (lo, hi)
  | _ => none
theorem asSlc_eq {e : Expr} {lo hi : Option Expr} (h : asSlc e = some (lo, hi)) : ∃ p, e = .Slice lo hi none p := by
  cases e with
  | Slice a b c p =>
    cases c with
    | none => simp [asSlc] at h; obtain ⟨rfl, rfl⟩ := h; exact ⟨_, rfl⟩
    | some c => simp [asSlc] at h
  | _ => simp [asSlc] at h
def asLC : Expr → Option (Expr × Expr × Expr × List Expr × Scope)
  | .ListComp x [⟨tg, it, ifs, 0⟩] sc _ => some (x, tg, it, ifs, sc)
  | _ => none
theorem asLC_eq {e x tg it : Expr} {ifs : List Expr} {sc : Scope} (h : asLC e = some (x, tg, it, ifs, sc)) : ∃ p, e = .ListComp x [⟨tg, it, ifs, 0⟩] sc p := by
  unfold asLC at h
  split at h
  · simp only [Option.some.injEq, Prod.mk.injEq] at h
    obtain ⟨rfl, rfl, rfl, rfl, rfl⟩ := h
    exact ⟨_, rfl⟩
  · cases h
def asDC : Expr → Option (Expr × Expr × Expr × Expr × List Expr × Scope)
  | .DictComp x y [⟨tg, it, ifs, 0⟩] sc _ => some (x, y, tg, it, ifs, sc)
  | _ => none
theorem asDC_eq {e x y tg it : Expr} {ifs : List Expr} {sc : Scope} (h : asDC e = some (x, y, tg, it, ifs, sc)) : ∃ p, e = .DictComp x y [⟨tg, it, ifs, 0⟩] sc p := by
  unfold asDC at h
  split at h
  · simp only [Option.some.injEq, Prod.mk.injEq] at h
    obtain ⟨rfl, rfl, rfl, rfl, rfl, rfl⟩ := h
    exact ⟨_, rfl⟩
  · cases h
def asDict : Expr → Option (List (Option Expr) × List Expr)
  | .Dict ks vs _ => some (ks, vs)
  | _ => none
theorem asDict_eq {e : Expr} {ks : List (Option Expr)} {vs : List Expr} (h : asDict e = some (ks, vs)) : ∃ p, e = .Dict ks vs p := by
  cases e <;> simp [asDict] at h
  obtain ⟨rfl, rfl⟩ := h
  exact ⟨_, rfl⟩
def isStar : Expr → Bool
  | .Starred _ _ => true
  | _ => false
/-- what a display of constants with a minus one is -/
def isM1 : Expr → Bool
  | .Slice none none (some (.UnaryOp .USub (.Constant (.int 1) _ _) _)) _ => true
  | _ => false
/-! ### plain facts of the text -/
theorem star_cons {e : Expr} {es : List Expr} {env : Env} (h : isStar e = false) : starEach (e :: es) env = (false, eval e env) :: starEach es env := by
  cases e <;> first | rfl | simp [isStar] at h
theorem star_none : ∀ {es : List Expr} {env : Env}, es.all (fun e => !isStar e) = true → (starEach es env).any (·.1) = false
  | [], _, _ => rfl
  | e :: es, env, h => by
    rw [List.all_cons, Bool.and_eq_true, Bool.not_eq_true'] at h
    rw [star_cons h.1, List.any_cons, star_none h.2]
    rfl
theorem back_none {pos : Pos} : ∀ {l : List (Bool × Sem Value)}, l.any (·.1) = false → (backTo pos l).any (·.1) = false := by
  intro l h
  unfold backTo
  rw [List.any_map]
  exact h
end Ez

/-! E4b: the checker -/
namespace Ez
open PySem PySem.Spec PyProof.Rows L2
structure Ck where
  N : List Str
  fm : List (Str × Nat)
  cs : List (Str × D)
def isGl (sc : Scope) (x : Str) : Bool := decide (sc.names.lookup x = some .globalImplicit) && !(x == ("__debug__" : Str))
def isVis (sc : Scope) (x : Str) : Bool := decide (sc.names.lookup x = some .local) || decide (sc.names.lookup x = some .cell) || decide (sc.names.lookup x = some .free)
def isLocal (sc : Scope) (x : Str) : Bool := decide (sc.names.lookup x = some .local)
def isLoc (sc : Scope) (x : Str) : Bool := decide (sc.names.lookup x = some .local) || decide (sc.names.lookup x = some .cell)
def nmOk (C : Ck) (i : Nat) (x : Str) : Bool := decide (C.N[i]? = some x) && !(x == ("__debug__" : Str)) && !(x == ("__classdict__" : Str))
def cstOk : Const → D → Bool
  | .none, .non => true
  | .bool a, .bl b => a == b
  | .int i, .int j => decide (i = j)
  | .str x, .str s => decide (x.cps.toList = s)
  | _, _ => false
def cstSame : D → D → Bool
  | .non, .non => true
  | .bl a, .bl b => a == b
  | .int i, .int j => decide (i = j)
  | .str x, .str s => decide (x = s)
  | _, _ => false
def all2 {α β : Type} (f : α → β → Bool) : List α → List β → Bool
  | [], [] => true
  | a :: as, b :: bs => f a b && all2 f as bs
  | _, _ => false
def isSet : Expr → Bool
  | .Set .. => true
  | _ => false
def isSlice : Expr → Bool
  | .Slice .. => true
  | _ => false
def isComp : Expr → Bool
  | .ListComp .. => true
  | .SetComp .. => true
  | .DictComp .. => true
  | _ => false
/-- f() by a name -/
def isCall0 : Expr → Bool
  | .Call (.Name _ _) [] [] _ => true
  | _ => false
def isTupE : Expr → Bool
  | .Tuple .. => true
  | _ => false
def asStar : Expr → Option Expr
  | .Starred e _ => some e
  | _ => none
def noStars (es : List Expr) : Bool := es.all fun e => !isStar e
def starOk (f : Expr → CE → Bool) (e : Expr) (p : Bool × CE) : Bool := match p.1 with
  | true => (match asStar e with
    | some x => f x p.2
    | none => false)
  | false => !isStar e && f e p.2
def optOk (f : Expr → CE → Bool) : Option Expr → Option CE → Bool
  | none, none => true
  | some e, some c => f e c
  | _, _ => false
/-- a key of a display: a text -/
def keyOkE : Option Expr → List Nat → Bool
  | some e, s => (match asConst e with
    | some (.str x) => decide (x.cps.toList = s)
    | _ => false)
  | none, _ => false
def ownOf (C : Ck) (own : List Nat) : List (Str × Nat) := own.map fun i => ((C.N[i]?).getD "", i)
/-- a comprehension's target: names of its own -/
def ckT (C : Ck) (scp : Scope) (own : List Nat) : Nat → Expr → TG → Bool
  | 0, _, _ => false
  | n + 1, e, g => (match g with
    | .nm i => (match asName e with
      | some x => decide (C.N[i]? = some x) && isLoc scp x && own.contains i
      | none => false)
    | .tu gs => (match asTupE e with
      | some es => noStars es && all2 (ckT C scp own n) es gs
      | none => false)
    | .sb _ _ => false)
/-- what may be a test -/
def tokC : Nat → CE → Bool
  | 0, _ => false
  | n + 1, .not_ a => tokC n a
  | n + 1, .and_ cs => cs.all (tokC n)
  | n + 1, .or_ cs => cs.all (tokC n)
  | _ + 1, .ite _ _ _ => false
  | _ + 1, .neg _ => false
  | _ + 1, _ => true
mutual
def ckE (C : Ck) : Nat → Scope → Expr → CE → Bool
  | 0, _, _, _ => false
  | n + 1, sc, e, c => (match c with
    | .var i => (match asName e with
      | some x => nmOk C i x && isVis sc x
      | none => false)
    | .cst d => (match asConst e with
      | some k => cstOk k d
      | none => false)
    | .glb d => (match asName e with
      | some x => isGl sc x && C.cs.any fun p => decide (p.1 = x) && cstSame p.2 d
      | none => false)
    | .bin op a b => (match asBin e with
      | some (x, o, y) => decide (o = bopOf op) && ckE C n sc x a && ckE C n sc y b
      | none => false)
    | .neg a => (match asNeg e with
      | some x => ckE C n sc x a
      | none => false)
    | .not_ a => (match asNot e with
      | some x => ckE C n sc x a
      | none => false)
    | .and_ cs => (match asAnd e with
      | some es => all2 (ckE C n sc) es cs
      | none => false)
    | .or_ cs => (match asOr e with
      | some es => all2 (ckE C n sc) es cs
      | none => false)
    | .ite t a b => (match asIf e with
      | some (x, y, z) => tokC 9 t && ckE C n sc x t && ckE C n sc y a && ckE C n sc z b
      | none => false)
    | .cmp op a b => (match asCmp e with
      | some (x, [o], [y]) => decide (o = copOf op) && !isSet y && ckE C n sc x a && ckE C n sc y b
      | _ => false)
    | .chn o1 o2 a b d => (match asCmp e with
      | some (x, [p, q], [y, z]) => decide (p = copOf o1) && decide (q = copOf o2) && !isSet z && ckE C n sc x a && ckE C n sc y b && ckE C n sc z d
      | _ => false)
    | .tup cs => (match asTupE e with
      | some es => all2 (starOk (ckE C n sc)) es cs
      | none => false)
    | .lst cs => (match asLstE e with
      | some es => noStars es && all2 (ckE C n sc) es cs
      | none => false)
    | .call f cs => (match asCallN e with
      | some (x, es) => isGl sc x && C.fm.contains (x, f) && noStars es && all2 (ckE C n sc) es cs
      | none => false)
    | .bi b cs => (match asCallN e with
      | some (x, es) => decide (x = biN b) && isGl sc x && !es.isEmpty && noStars es && all2 (ckE C n sc) es cs
      | none => false)
    | .isi t a => (match asCallN e with
      | some (x, [y, z]) => decide (x = ("isinstance" : Str)) && isGl sc x && decide (asName z = some (tyN t)) && isGl sc (tyN t) && !isStar y && ckE C n sc y a
      | _ => false)
    | .lrg a => (match asCallN e with
      | some (x, [y]) => decide (x = ("list" : Str)) && isGl sc x && (match asCallN y with
        | some (z, [w]) => decide (z = ("range" : Str)) && isGl sc z && !isStar w && ckE C n sc w a
        | _ => false)
      | _ => false)
    | .met me o cs => (match asMeth e with
      | some (x, nm, es) => decide (nm = meN me) && !isCall0 x && noStars es && decide (es.length < 20) && ckE C n sc x o && all2 (ckE C n sc) es cs
      | none => false)
    | .sub a i => (match asSubE e with
      | some (x, y) => !isSlice y && ckE C n sc x a && ckE C n sc y i
      | none => false)
    | .slc a lo hi => (match asSubE e with
      | some (x, y) => (match asSlc y with
        | some (p, q) => ckE C n sc x a && optOk (ckE C n sc) p lo && optOk (ckE C n sc) q hi
        | none => false)
      | none => false)
    | .rev a => (match asSubE e with
      | some (x, y) => isM1 y && ckE C n sc x a
      | none => false)
    | .lc own elt tg it ifs => (match asLC e with
      | some (x, t, i, ts, scp) => blkC C.N sc scp (ownOf C own) && ckT C scp own n t tg && ckI C n sc t i it && !isSet i && decide (ts.length ≤ 1) && ifs.all (tokC 9) && all2 (ckE C n (relS scp sc)) ts ifs && ckE C n (relS scp sc) x elt
      | none => false)
    | .dc own k v tg it ifs => (match asDC e with
      | some (x, y, t, i, ts, scp) => blkC C.N sc scp (ownOf C own) && ckT C scp own n t tg && ckI C n sc t i it && !isSet i && decide (ts.length ≤ 1) && ifs.all (tokC 9) && all2 (ckE C n (relS scp sc)) ts ifs && ckE C n (relS scp sc) x k && ckE C n (relS scp sc) y v
      | none => false)
    | .dnk => (match asDict e with
      | some ([], []) => true
      | _ => false)
    | .dnt => (match asDict e with
      | some ([], []) => true
      | _ => false)
    | .dsk ks cs => (match asDict e with
      | some (kx, vs) => !kx.isEmpty && decide (ks.Nodup) && decide (ks.length ≤ 15) && all2 keyOkE kx ks && all2 (ckE C n sc) vs cs
      | none => false)
    | .dst1 k v => (match asDict e with
      | some ([some x], [y]) => ckE C n sc x k && ckE C n sc y v
      | _ => false)
    | .calk _ _ _ => false)
def ckI (C : Ck) : Nat → Scope → Expr → Expr → CI → Bool
  | 0, _, _, _, _ => false
  | n + 1, sc, tg, e, c => (match c with
    | .ex a => ckE C n sc e a
    | .rg1 a => (match asCallN e with
      | some (x, [y]) => decide (x = ("range" : Str)) && isGl sc x && !isStar y && ckE C n sc y a
      | _ => false)
    | .rg2 a b => (match asCallN e with
      | some (x, [y, z]) => decide (x = ("range" : Str)) && isGl sc x && !isStar y && !isStar z && ckE C n sc y a && ckE C n sc z b
      | _ => false)
    | .rg3 a b d => (match asCallN e with
      | some (x, [y, z, w]) => decide (x = ("range" : Str)) && isGl sc x && !isStar y && !isStar z && !isStar w && ckE C n sc y a && ckE C n sc z b && ckE C n sc w d
      | _ => false)
    | .en a => (match asCallN e with
      | some (x, [y]) => decide (x = ("enumerate" : Str)) && isGl sc x && !isStar y && isTupE tg && ckE C n sc y a
      | _ => false)
    | .zp a b => (match asCallN e with
      | some (x, [y, z]) => decide (x = ("zip" : Str)) && isGl sc x && !isStar y && !isStar z && isTupE tg && ckE C n sc y a && ckE C n sc z b
      | _ => false))
end
def ckG (C : Ck) : Nat → Scope → Expr → TG → Bool
  | 0, _, _, _ => false
  | n + 1, sc, e, g => (match g with
    | .nm i => (match asName e with
      | some x => decide (C.N[i]? = some x) && isLoc sc x
      | none => false)
    | .tu gs => (match asTupE e with
      | some es => noStars es && all2 (ckG C n sc) es gs
      | none => false)
    | .sb o i => (match asSubE e with
      | some (x, y) => !isSlice y && ckE C n sc x o && ckE C n sc y i
      | none => false))
/-! ### statements -/
def asExS : Stmt → Option Expr
  | .Expr e _ => some e
  | _ => none
def asAsg : Stmt → Option (Expr × Expr × Pos)
  | .Assign [t] e p => some (t, e, p)
  | _ => none
def asAug : Stmt → Option (Str × Operator × Expr)
  | .AugAssign (.Name x _) o e _ => some (x, o, e)
  | _ => none
def asRet : Stmt → Option Expr
  | .Return (some e) _ => some e
  | _ => none
def isRetN : Stmt → Bool
  | .Return none _ => true
  | _ => false
def asIfS : Stmt → Option (Expr × List Stmt × List Stmt)
  | .If c a b _ => some (c, a, b)
  | _ => none
def asWhl : Stmt → Option (Expr × List Stmt)
  | .While c b [] _ => some (c, b)
  | _ => none
def asFor : Stmt → Option (Expr × Expr × List Stmt)
  | .For t i b [] _ => some (t, i, b)
  | _ => none
def isPass : Stmt → Bool
  | .Pass _ => true
  | _ => false
def isBrk : Stmt → Bool
  | .Break _ => true
  | _ => false
def isCnt : Stmt → Bool
  | .Continue _ => true
  | _ => false
/-- whether an assigned comprehension stores in its own frame -/
def swB (sc : Scope) (y : Str) (py : Pos) (e : Expr) (scp : Scope) : Bool := isLocal sc y && py.line == e.pos.line && !(scp.names.any fun (n, k) => n == y && (k == .local || k == .cell))
def namePos : Expr → Option (Str × Pos)
  | .Name x p => some (x, p)
  | _ => none
/-- a comprehension of a list or of a dict -/
def isLD : Expr → Bool
  | .ListComp .. => true
  | .DictComp .. => true
  | _ => false
/-- a, b = x, y: stored from the right (true), or by the pair (false) -/
def parOk (sc : Scope) (ts vs : List Expr) : Option Bool := match ts with
  | t :: _ => if (ts.all fun t => (match namePos t with
      | some (x, p) => isLocal sc x && p.line == t.pos.line
      | none => false)) && (ts.all fun u => u.pos.line == t.pos.line) && !(vs.all (foldedForSure 8)) && !(vs.all (constantsAlone 8)) then some true
    else if (vs.all (foldedForSure 8)) || (ts.any fun t => (match namePos t with
      | some (x, _) => !isLocal sc x
      | none => true)) then some false else none
  | [] => none
def ckS (C : Ck) : Nat → Scope → Stmt → CS → Bool
  | 0, _, _, _ => false
  | n + 1, sc, s, c => (match c with
    | .ex a => (match asExS s with
      | some e => !isComp e && ckE C n sc e a
      | none => false)
    | .asg g a => (match asAsg s with
      | some (t, e, p) => ((!isComp e || (asSubE t).isSome) && !(isTupE e && isTupE t) && ckG C n sc t g && ckE C n sc e a) || (match g with
        | .nm i => (match namePos t with
          | some (y, py) => decide (C.N[i]? = some y) && isLoc sc y && isLD e && ckE C n sc e a
          | none => false)
        | _ => false)
      | none => false)
    | .par is cs => (match asAsg s with
      | some (t, e, p) => (match asTupE t, asTupE e with
        | some ts, some es => (parOk sc ts es).isSome && decide (ts.length = is.length) && decide (es.length = is.length) && (decide (is.length = 2) || (decide (is.length = 3) && decide (parOk sc ts es = some true))) && decide (is.Nodup)
            && noStars es && noStars ts && all2 (fun t i => match asName t with
              | some x => decide (C.N[i]? = some x) && isLoc sc x
              | none => false) ts is && all2 (ckE C n sc) es cs
        | _, _ => false)
      | none => false)
    | .aug i op a => (match asAug s with
      | some (x, o, e) => decide (C.N[i]? = some x) && isLoc sc x && decide (o = bopOf op) && decide (o = .Add) && ckE C n sc e a
      | none => false)
    | .ret a => (match asRet s with
      | some e => ckE C n sc e a
      | none => false)
    | .retN => isRetN s
    | .ife t a b => (match asIfS s with
      | some (x, y, z) => tokC 9 t && ckE C n sc x t && all2 (ckS C n sc) y a && all2 (ckS C n sc) z b
      | none => false)
    | .whl t b => (match asWhl s with
      | some (x, y) => tokC 9 t && ckE C n sc x t && all2 (ckS C n sc) y b
      | none => false)
    | .for_ g it b => (match asFor s with
      | some (t, i, y) => ckG C n sc t g && ckI C n sc t i it && !isSet i && all2 (ckS C n sc) y b
      | none => false)
    | .pas => isPass s
    | .brk => isBrk s
    | .cnt => isCnt s
    | .nev => true)
end Ez

/-! E4c: calls, contexts, readings -/
namespace Ez
open PySem PySem.Spec PyProof.Rows L2
/-! ### a def that keeps its promise where no repr runs around it -/
structure FG (P : Program) (w : World) (K : Fg) (mg : Str → Option Value) (base : Heap) (k : Nat) (f : Addr) (fd : FuncData) (ps : List Str) (sp : Sp) : Prop where
  len : ∀ vs H Q, sp vs H Q E0 → vs.length = ps.length
  run : ∀ (A : Around) (outer : List Env) (s : Shared) (H : Hp) (args : Args) (us : List Value) (vs : List V) (Q : VK), Room k A → A.guards = some [] → Env0 P w K mg base A outer s H → BindsTo s fd args (ps.zip us) → Vals vs us →
    sp vs H Q E0 → codeAny (model P w) A (.call (.ref f) args) (CR CX0 outer P w H s Q E0) s
theorem fg_of {P : Program} {w : World} {K : Fg} {mg : Str → Option Value} {base : Heap} {x qual : Str} {params : Arguments} {body : List Stmt} {scope : Scope} {dvs : List V} {kws : List (Str × V)} {f : Addr} {fd : FuncData} {N ps : List Str} {k : Nat} {sp : Sp}
    (F : FunD K x qual params body scope dvs kws f fd) (S : FnScope N ps scope) (len : ∀ vs H Q, sp vs H Q E0 → vs.length = ps.length)
    (hbody : ∀ (cdv : Value) (A : Around) (outer : List Env) (s : Shared) (H : Hp) (vs : List V) (Q : VK), Room k (A.deeper (envOfC qual scope s.heap.objs.size f cdv)) → A.guards = some [] → sp vs H Q E0 →
      ∃ t, PSs (cxOf CX0 P w K mg base N qual scope f cdv A outer s H E0) body t ∧ t { nx := fun _ H' => Q .non H', rt := Q } (L2.start N vs) H) : FG P w K mg base (k + 1) f fd ps sp := by
  obtain ⟨oc, od, dV, kV, doc, pm, an, cdv, ct, osl, rfl, lk, hcd, _, _⟩ := F.ex
  refine ⟨len, fun A outer s H args us vs Q hr hgd e0 hb r hsp => ?_⟩
  have hl := len _ _ _ hsp
  have inS : K.In s.heap := e0.mod.kin.keeps fun b o e => (e0.bs b o e).1
  have noL : s.heap.NoLimit := e0.mod.nolimit.keeps fun b o e => (e0.bs b o e).1
  have kinds : ∀ y ∈ ps.zip us, scope.names.lookup y.1 = some .local ∨ (scope.names.lookup y.1 = some .cell ∧ ((cellsFrom (s.heap.objs.size + 1) scope.names []).lookup y.1).isSome = true) := fun y hy =>
    (S.par y.1 (List.of_mem_zip (a := y.1) (b := y.2) hy).1).imp id fun q => ⟨q, PySem.W.cellsFrom_some _ _ _ (.inl q)⟩
  refine codeAny_call_function hr.depth (inS _ _ lk) rfl S.co S.gen rfl (PySem.W.codeRec_of inS hcd) (hb _ _ _ _ ?_)
  refine wpAny_newFunctionEnv_cells S.kind kinds fun env he s1 z => ?_
  subst he
  refine ⟨noL.keeps z.toInCall.keep, codeAny_func ?_⟩
  obtain ⟨t, ht, hq⟩ := hbody cdv A outer s H vs Q (hr.deeper _) hgd hsp
  refine wpAny_mono (ht.run [] s1 (L2.start N vs) H _ (inv_start S hr.hd e0 hl r z) hq) (fun fl s' hs => ?_) fun e s' hs => hs
  cases fl with
  | ret u => obtain ⟨v, σ', H', J, rv, q⟩ := hs; exact ⟨v, H', J.os, J.bare, J.base, J.hok, rv, q⟩
  | next => obtain ⟨σ', H', J, q⟩ := hs; exact ⟨V.non, H', J.os, J.bare, J.base, J.hok, rfl, q⟩
  | brk => obtain ⟨_, _, _, q⟩ := hs; exact q.elim
  | cont => obtain ⟨_, _, _, q⟩ := hs; exact q.elim
section
variable {X : Cx} {k : Nat} {f : Addr} {fd : FuncData} {ps : List Str} {sp : Sp} {x : Str} {p pos : Pos} {e : Expr} {es : List Expr} {t : TA}
theorem run_fg {pins : List (Addr × Obj)} {σ : L2.St} {H : Hp} {s : Shared} {Q : VK} {us : List Value} {vs : List V} (F : FG X.prog X.w X.K X.mg X.base k f fd ps sp) (hr : Room k X.A) (hg : X.A.guards = some []) (hb : Binds X.K fd ps [])
    (I : Inv X pins σ H s) (r : Vals vs us) (h : sp vs H Q E0) : wpAny (model X.prog X.w) X.A (call (.ref f) us) (EP X pins σ Q) X.xe s := by
  have hl : (us ++ []).length = ps.length := by rw [List.append_nil, ← r.length]; exact F.len _ _ _ h
  have hB := hb s us I.kIn hl
  rw [List.append_nil] at hB
  refine wpAny_call (codeAny_mono (F.run X.A X.stack s H ⟨us, []⟩ us vs Q hr hg I.env0 hB r h) fun z s' hq => ?_)
  cases z with
  | error e => exact False.elim hq
  | ok fl =>
    cases fl with
    | ret u => exact I.after hq
    | next => exact False.elim hq
    | brk => exact False.elim hq
    | cont => exact False.elim hq
theorem pe_fg0 (F : FG X.prog X.w X.K X.mg X.base k f fd ps sp) (hr : Room k X.A) (hgd : X.A.guards = some []) (hg : Gl X x) (hm : X.mg x = some (.ref f)) (hk : PySem.W.keepIn X.K (.ref f) = true) (hb : Binds X.K fd ps [])
    (hdb : (x == ("__debug__" : Str)) = false) : PE X (.Call (.Name x p) [] [] pos) (fun _ H Q => sp [] H Q E0) := by
  refine ⟨fun pins s σ H Q I h => ?_⟩
  refine wpAny_Call_Name_kw (ld_glob I hg hm ?_ hdb)
  exact PySem.W.callWith_K0 I.kIn hk (run_fg (us := []) F hr hgd hb I .nil h)
theorem pe_fg (F : FG X.prog X.w X.K X.mg X.base k f fd ps sp) (hr : Room k X.A) (hgd : X.A.guards = some []) (hg : Gl X x) (hm : X.mg x = some (.ref f)) (hk : PySem.W.keepIn X.K (.ref f) = true) (hb : Binds X.K fd ps [])
    (ha : PA X (e :: es) t) (hdb : (x == ("__debug__" : Str)) = false) (hs : noStars (e :: es) = true) : PE X (.Call (.Name x p) (e :: es) [] pos) (fun σ H Q => t σ H fun vs H1 => sp vs H1 Q E0) := by
  refine ⟨fun pins s σ H Q I h => ?_⟩
  refine wpAny_Call_Name_kw (ld_glob I hg hm ?_ hdb)
  unfold noStars at hs
  rw [List.all_cons, Bool.and_eq_true, Bool.not_eq_true'] at hs
  refine PySem.W.callWith_K (h₀ := X.base) I.ok.mod.kin hk (thn (ha.run pos pins s σ H _ I h) fun us s1 ⟨vs, H1, I1, r, q⟩ => ⟨I1.kIn, ?_⟩) (star_cons hs.1) (back_none (star_none hs.2))
  exact run_fg F hr hgd hb I1 r q
end
/-! ### readings weakened -/
section
variable {X : Cx}
theorem PE.imp {e : Expr} {t t' : TE} (h : PE X e t) (w : ∀ σ H Q, t' σ H Q → t σ H Q) : PE X e t' := ⟨fun pins s σ H Q I q => h.run pins s σ H Q I (w σ H Q q)⟩
theorem PT.imp {e : Expr} {t t' : TT} (h : PT X e t) (w : ∀ σ H Q, t' σ H Q → t σ H Q) : PT X e t' := ⟨fun pins s σ H Q I q => h.run pins s σ H Q I (w σ H Q q)⟩
theorem PW.imp {e : Expr} {t t' : TT} (h : PW X e t) (w : ∀ σ H Q, t' σ H Q → t σ H Q) : PW X e t' := ⟨fun wh pins s σ H Q I q => h.run wh pins s σ H Q I (w σ H Q q)⟩
theorem PA.imp {es : List Expr} {t t' : TA} (h : PA X es t) (w : ∀ σ H Q, t' σ H Q → t σ H Q) : PA X es t' := ⟨fun pos pins s σ H Q I q => h.run pos pins s σ H Q I (w σ H Q q)⟩
theorem PS.imp {st : Stmt} {t t' : TS} (h : PS X st t) (w : ∀ D σ H, t' D σ H → t D σ H) : PS X st t' := ⟨fun pins s σ H D I q => h.run pins s σ H D I (w D σ H q)⟩
theorem PSs.imp {st : List Stmt} {t t' : TS} (h : PSs X st t) (w : ∀ D σ H, t' D σ H → t D σ H) : PSs X st t' := ⟨fun pins s σ H D I q => h.run pins s σ H D I (w D σ H q)⟩
theorem PI.imp {tg e : Expr} {t t' : TI} (h : PI X tg e t) (w : ∀ σ H R, t' σ H R → t σ H R) : PI X tg e t' := ⟨fun pins s σ H R I q => h.run pins s σ H R I (w σ H R q)⟩
theorem PG.imp {e : Expr} {t t' : L2.TG} (h : PG X e t) (w : ∀ v σ H Q, t' v σ H Q → t v σ H Q) : PG X e t' := ⟨fun pins s σ H v u Q I r q => h.run pins s σ H v u Q I r (w v σ H Q q)⟩
theorem PGs.imp {e : List Expr} {t t' : TGs} (h : PGs X e t) (w : ∀ v σ H Q, t' v σ H Q → t v σ H Q) : PGs X e t' := ⟨fun pins s σ H v u Q I r q => h.run pins s σ H v u Q I r (w v σ H Q q)⟩
end
/-! ### the evaluator's readings -/
section
variable (T : Tab) (K : Fg)
def PostL (m : List Addr) (h' : Hh) (ds : List D) (H : Hp) (Q : List V → Hp → Prop) : Prop := ∀ m' H' vs, Ext m m' H H' → Hr K m' h' H' → Rls K m' H' ds vs → Q vs H'
def PostT (m : List Addr) (h' : Hh) (b : Bool) (H : Hp) (Q : Bool → Hp → Prop) : Prop := ∀ m' H', Ext m m' H H' → Hr K m' h' H' → Q b H'
def PostI (m : List Addr) (h' : Hh) (src : Src) (H : Hp) (R : It → Hp → Prop) : Prop := ∀ m' H' J, Ext m m' H H' → Hr K m' h' H' → SrcR K m' H' src J 0 → R J H'
def PostG (m : List Addr) (h' : Hh) (sg' : Sg) (H : Hp) (Q : L2.St → Hp → Prop) : Prop := ∀ m' H' σ', Ext m m' H H' → Hr K m' h' H' → Sr K m' H' sg' σ' → Q σ' H'
def EndF (D : Ends) (m' : List Addr) (H' : Hp) (sg' : Sg) : Fl → Prop
  | .nx => ∀ σ', Sr K m' H' sg' σ' → D.nx σ' H'
  | .bk => ∀ σ', Sr K m' H' sg' σ' → D.bk σ' H'
  | .ct => ∀ σ', Sr K m' H' sg' σ' → D.ct σ' H'
  | .rt d => ∀ v, Rl K m' H' d v → D.rt v H'
def Fin (m : List Addr) (H : Hp) (r : Fl × Sg × Hh) (D : Ends) : Prop := ∀ m' H', Ext m m' H H' → Hr K m' r.2.2 H' → EndF K D m' H' r.2.1 r.1
def rE (n l : Nat) (c : CE) : TE := fun σ H Q => ∃ m h sg p, Hr K m h H ∧ Sr K m H sg σ ∧ evs T n .e (l, c, sg, h) = some p ∧ Post K m p.2 p.1 H Q
def rEs (n l : Nat) (cs : List CE) : TA := fun σ H Q => ∃ m h sg p, Hr K m h H ∧ Sr K m H sg σ ∧ evs T n .es (l, cs, sg, h) = some p ∧ PostL K m p.2 p.1 H Q
def rSp (n l : Nat) (cs : List (Bool × CE)) : TA := fun σ H Q => ∃ m h sg p, Hr K m h H ∧ Sr K m H sg σ ∧ evs T n .sp (l, cs, sg, h) = some p ∧ PostL K m p.2 p.1 H Q
def rT (n l : Nat) (c : CE) : TT := fun σ H Q => ∃ m h sg p, Hr K m h H ∧ Sr K m H sg σ ∧ evs T n .t (l, c, sg, h) = some p ∧ PostT K m p.2 p.1 H Q
def rTs (n l : Nat) (cs : List CE) : TT := fun σ H Q => ∃ m h sg p, Hr K m h H ∧ Sr K m H sg σ ∧ evs T n .ts (l, cs, sg, h) = some p ∧ PostT K m p.2 p.1 H Q
def rCi (n l : Nat) (c : CI) : TI := fun σ H R => ∃ m h sg p, Hr K m h H ∧ Sr K m H sg σ ∧ evs T n .ci (l, c, sg, h) = some p ∧ PostI K m p.2 p.1 H R
def rG (n l : Nat) (g : TG) : L2.TG := fun v σ H Q => ∃ m h sg d p, Hr K m h H ∧ Sr K m H sg σ ∧ Rl K m H d v ∧ evs T n .g (l, g, d, sg, h) = some p ∧ PostG K m p.2 p.1 H Q
def rGs (n l : Nat) (gs : List TG) : TGs := fun vs σ H Q => ∃ m h sg ds p, Hr K m h H ∧ Sr K m H sg σ ∧ Rls K m H ds vs ∧ evs T n .gs (l, gs, ds, sg, h) = some p ∧ PostG K m p.2 p.1 H Q
def rS (n l : Nat) (c : CS) : TS := fun D σ H => ∃ m h sg p, Hr K m h H ∧ Sr K m H sg σ ∧ evs T n .s (l, c, sg, h) = some p ∧ Fin K m H p D
def rSs (n l : Nat) (cs : List CS) : TS := fun D σ H => ∃ m h sg p, Hr K m h H ∧ Sr K m H sg σ ∧ evs T n .ss (l, cs, sg, h) = some p ∧ Fin K m H p D
/-- a def's promise: what the evaluator gives -/
def rCa (n l f : Nat) : Sp := fun vs H Q _ => ∃ m h as p, Hr K m h H ∧ Rls K m H as vs ∧ evs T n .ca (l, f, as, h) = some p ∧ Post K m p.2 p.1 H Q
end
section
variable {T : Tab} {K : Fg} {m m1 : List Addr} {h h1 h' : Hh} {H H1 : Hp}
theorem Post.after {d : D} {Q : VK} (P : Post K m h' d H Q) (R1 : Hr K m1 h1 H1) (x : Ext m m1 H H1) : Post K m1 h' d H1 Q := fun m' H' v y R r => P m' H' v (x.trans R1 y) R r
theorem PostL.after {d : List D} {Q : List V → Hp → Prop} (P : PostL K m h' d H Q) (R1 : Hr K m1 h1 H1) (x : Ext m m1 H H1) : PostL K m1 h' d H1 Q := fun m' H' v y R r => P m' H' v (x.trans R1 y) R r
theorem PostT.after {b : Bool} {Q : Bool → Hp → Prop} (P : PostT K m h' b H Q) (R1 : Hr K m1 h1 H1) (x : Ext m m1 H H1) : PostT K m1 h' b H1 Q := fun m' H' y R => P m' H' (x.trans R1 y) R
theorem PostI.after {src : Src} {Q : It → Hp → Prop} (P : PostI K m h' src H Q) (R1 : Hr K m1 h1 H1) (x : Ext m m1 H H1) : PostI K m1 h' src H1 Q := fun m' H' J y R r => P m' H' J (x.trans R1 y) R r
theorem PostG.after {sg' : Sg} {Q : L2.St → Hp → Prop} (P : PostG K m h' sg' H Q) (R1 : Hr K m1 h1 H1) (x : Ext m m1 H H1) : PostG K m1 h' sg' H1 Q := fun m' H' v y R r => P m' H' v (x.trans R1 y) R r
theorem Fin.after {p : Fl × Sg × Hh} {D : Ends} (P : Fin K m H p D) (R1 : Hr K m1 h1 H1) (x : Ext m m1 H H1) : Fin K m1 H1 p D := fun m' H' y R => P m' H' (x.trans R1 y) R
end
/-! ### the context -/
def bnames : List Str := ["len", "all", "any", "int", "list", "tuple", "max", "min", "sum", "sorted", "repr", "isinstance", "range", "enumerate", "zip", "bool", "str", "dict"]
def cV : D → V
  | .non => .non
  | .bl b => .bl b
  | .int i => .int i
  | .str s => .str ⟨s.toArray⟩
  | _ => .non
def isCst : D → Bool
  | .non => true | .bl _ => true | .int _ => true | .str _ => true
  | _ => false
/-- where a def stands -/
structure FAt (K : Fg) (mg : Str → Option Value) (x : Str) (a : Addr) (fd : FuncData) (ps : List Str) : Prop where
  mgx : mg x = some (.ref a)
  kp : PySem.W.keepIn K (.ref a) = true
  bd : Binds K fd ps []
/-- the module as the evaluator's table has it -/
structure Md (K : Fg) (mg : Str → Option Value) (C : Ck) : Prop where
  bt : ∀ x ∈ bnames, mg x = none
  ct : ∀ p ∈ C.cs, isCst p.2 = true ∧ ∃ u, mg p.1 = some u ∧ RelV (cV p.2) u
/-- the defs' promises at fuel n -/
def FnsG (T : Tab) (P : Program) (w : World) (K : Fg) (mg : Str → Option Value) (base : Heap) (fm : List (Str × Nat)) (n : Nat) : Prop :=
  ∀ q ∈ fm, ∃ a fd ps, FAt K mg q.1 a fd ps ∧ ∀ l, FG P w K mg base (l + 1) a fd ps (rCa T K n l q.2)
structure Cok (X : Cx) (C : Ck) (sc : Scope) (l : Nat) : Prop where
  room : Room l X.A
  gd : X.A.guards = some []
  calm : X.calm = true
  hN : X.N = C.N
  nd : C.N.Nodup
  hsc : X.env.scope = sc
  md : Md X.K X.mg C
  own : PassesOwn (model X.prog X.w) X.A X.env X.xe
end Ez

/-! E4d: expressions -/
namespace Ez
open PySem PySem.Spec PyProof.Rows L2
section
variable {T : Tab} {X : Cx} {C : Ck} {sc : Scope} {n l : Nat}
theorem Cok.gl (O : Cok X C sc l) {x : Str} (h : isGl sc x = true) : Gl X x ∧ (x == ("__debug__" : Str)) = false := by
  unfold isGl at h
  rw [Bool.and_eq_true, decide_eq_true_eq, Bool.not_eq_true'] at h
  refine ⟨?_, h.2⟩
  show X.env.scope.names.lookup x = _
  rw [O.hsc]
  exact h.1
theorem Cok.vis (O : Cok X C sc l) {x : Str} (h : isVis sc x = true) : Vis X.env.scope x := by
  unfold isVis at h
  simp only [Bool.or_eq_true, decide_eq_true_eq] at h
  rw [O.hsc]
  rcases h with (h | h) | h
  · exact .inl h
  · exact .inr (.inl h)
  · exact .inr (.inr h)
theorem Cok.loc (O : Cok X C sc l) {x : Str} (h : isLoc sc x = true) : Loc X.env.scope x := by
  unfold isLoc at h
  simp only [Bool.or_eq_true, decide_eq_true_eq] at h
  rw [O.hsc]
  exact h
theorem Cok.u1 (O : Cok X C sc l) : X.A.units + 9 < cLine := by have := O.room.un; omega
theorem Cok.u64 (O : Cok X C sc l) : X.A.units + 64 < cLine := by have := O.room.un; omega
theorem Cok.u65 (O : Cok X C sc l) : X.A.units + 65 < cLine := by have := O.room.un; omega
theorem nmOk_ok {i : Nat} {x : Str} (h : nmOk C i x = true) : C.N[i]? = some x ∧ (x == ("__debug__" : Str)) = false ∧ (x == ("__classdict__" : Str)) = false := by
  unfold nmOk at h
  simp only [Bool.and_eq_true, decide_eq_true_eq, Bool.not_eq_true'] at h
  exact ⟨h.1.1, h.1.2, h.2⟩
theorem g_var (O : Cok X C sc l) {i : Nat} {x : Str} {p : Pos} (h1 : nmOk C i x = true) (h2 : isVis sc x = true) : PE X (.Name x p) (rE T X.K (n + 1) l (.var i)) := by
  obtain ⟨hN, hd, hc⟩ := nmOk_ok h1
  refine PE.imp (pe_var (i := i) (by rw [O.hN]; exact hN) (O.vis h2) hd hc) fun σ H Q ⟨m, h, sg, q, R, S, e, P⟩ => ?_
  simp only [evs, step, stepE] at e
  obtain ⟨o, e1, e⟩ := bnd e
  obtain ⟨d, e2, e⟩ := bnd e
  cases e
  subst e2
  obtain ⟨v, ev, r⟩ := S.at_ i d e1
  exact ⟨v, ev, P.here R r⟩
theorem rl_cV {K : Fg} {m : List Addr} {H : Hp} {d : D} (h : isCst d = true) : Rl K m H d (cV d) := by
  cases d <;> first | rfl | simp [isCst] at h
theorem g_cst {k : Const} {d : D} {j : Nat} {p : Pos} (hk : cstOk k d = true) : PE X (.Constant k j p) (rE T X.K (n + 1) l (.cst d)) := by
  have base : PE X (.Constant k j p) (tC (cV d)) ∧ isCst d = true := by
    cases k <;> cases d <;> simp [cstOk] at hk
    · exact ⟨pe_non, rfl⟩
    · subst hk; exact ⟨pe_bl, rfl⟩
    · subst hk; exact ⟨pe_int, rfl⟩
    · rename_i x s
      subst hk
      exact ⟨pe_str, rfl⟩
  refine PE.imp base.1 fun σ H Q ⟨m, h, sg, q, R, S, e, P⟩ => ?_
  simp only [evs, step, stepE] at e
  cases e
  exact P.here R (rl_cV base.2)
theorem cstSame_ok {a b : D} (h : cstSame a b = true) : a = b := by
  cases a <;> cases b <;> simp [cstSame] at h <;> first | rfl | (subst h; rfl)
theorem g_glb (O : Cok X C sc l) {x : Str} {d : D} {p : Pos} (h1 : isGl sc x = true) (h2 : (C.cs.any fun p => decide (p.1 = x) && cstSame p.2 d) = true) : PE X (.Name x p) (rE T X.K (n + 1) l (.glb d)) := by
  obtain ⟨q, hq, h3⟩ := List.any_eq_true.mp h2
  rw [Bool.and_eq_true, decide_eq_true_eq] at h3
  obtain ⟨hc, u, hu, r⟩ := O.md.ct q hq
  obtain ⟨hg, hd⟩ := O.gl h1
  have e1 := cstSame_ok h3.2
  rw [h3.1] at hu
  rw [e1] at hc r
  refine PE.imp (pe_glob hg hu r hd) fun σ H Q ⟨m, h, sg, q, R, S, e, P⟩ => ?_
  simp only [evs, step, stepE] at e
  cases e
  exact P.here R (rl_cV hc)
theorem g_bin {op : BOp} {a b : CE} {x y : Expr} {p : Pos} (ha : PE X x (rE T X.K n l a)) (hb : PE X y (rE T X.K n l b)) : PE X (.BinOp x (bopOf op) y p) (rE T X.K (n + 1) l (.bin op a b)) := by
  refine PE.imp (pe_op (op_bin op) ha hb) fun σ H Q ⟨m, h, sg, q, R, S, e, P⟩ => ?_
  simp only [evs, step, stepE] at e
  obtain ⟨p1, e1, e⟩ := bnd e
  obtain ⟨p2, e2, e3⟩ := bnd e
  refine ⟨m, h, sg, p1, R, S, e1, fun m1 H1 v x1 R1 r1 => ⟨m1, p1.2, sg, p2, R1, x1.sr R S, e2, fun m2 H2 u x2 R2 r2 => ?_⟩⟩
  exact bin_ok e3 R2 (x2.rl R1 r1) r2 (P.after R2 (x1.trans R1 x2))
theorem g_neg {a : CE} {x : Expr} {p : Pos} (ha : PE X x (rE T X.K n l a)) : PE X (.UnaryOp .USub x p) (rE T X.K (n + 1) l (.neg a)) := by
  refine PE.imp (pe_un un_neg ha) fun σ H Q ⟨m, h, sg, q, R, S, e, P⟩ => ?_
  simp only [evs, step, stepE] at e
  obtain ⟨p1, e1, e⟩ := bnd e
  obtain ⟨i, e2, e⟩ := bnd e
  cases e
  refine ⟨m, h, sg, p1, R, S, e1, fun m1 H1 v x1 R1 r1 => ?_⟩
  obtain ⟨d1, h1⟩ := p1
  cases d1 <;> simp [asInt] at e2
  subst e2
  simp only [Rl] at r1
  exact ⟨_, r1, P m1 H1 _ x1 R1 rfl⟩
theorem g_not {a : CE} {x : Expr} {p : Pos} (ha : PT X x (rT T X.K n l a)) : PT X (.UnaryOp .Not x p) (rT T X.K (n + 1) l (.not_ a)) := by
  refine PT.imp (pt_not ha) fun σ H Q ⟨m, h, sg, q, R, S, e, P⟩ => ?_
  simp only [evs, step] at e
  obtain ⟨p1, e1, e⟩ := bnd e
  cases e
  exact ⟨m, h, sg, p1, R, S, e1, fun m1 H1 x1 R1 => P m1 H1 x1 R1⟩
/-- not x as a value -/
theorem g_notV {a : CE} {x : Expr} {p : Pos} (ha : PE X x (rE T X.K n l a)) : PE X (.UnaryOp .Not x p) (rE T X.K (n + 1) l (.not_ a)) := by
  refine PE.imp (pe_notT ha) fun σ H Q ⟨m, h, sg, q, R, S, e, P⟩ => ?_
  simp only [evs, step, stepE] at e
  obtain ⟨p1, e1, e⟩ := bnd e
  obtain ⟨k, e2, e⟩ := bnd e
  cases e
  exact ⟨m, h, sg, p1, R, S, e1, fun m1 H1 v x1 R1 r1 => ⟨k, tru_ok' e2 R1 r1, P m1 H1 _ x1 R1 rfl⟩⟩
theorem g_ite {c a b : CE} {x y z : Expr} {p : Pos} (hc : PT X x (rT T X.K n l c)) (ha : PE X y (rE T X.K n l a)) (hb : PE X z (rE T X.K n l b)) : PE X (.IfExp x y z p) (rE T X.K (n + 1) l (.ite c a b)) := by
  refine PE.imp (pe_ifExp hc ha hb) fun σ H Q ⟨m, h, sg, q, R, S, e, P⟩ => ?_
  simp only [evs, step, stepE] at e
  obtain ⟨p1, e1, e⟩ := bnd e
  refine ⟨m, h, sg, p1, R, S, e1, fun m1 H1 x1 R1 => ?_⟩
  split at e
  · rename_i hb
    rw [if_pos hb]
    exact ⟨m1, p1.2, sg, q, R1, x1.sr R S, e, P.after R1 x1⟩
  · rename_i hb
    rw [if_neg hb]
    exact ⟨m1, p1.2, sg, q, R1, x1.sr R S, e, P.after R1 x1⟩
theorem mark_no {op : CmpOp} {y : Expr} (h : isSet y = false) : behindInMarks op y = false := by
  cases y <;> first | rfl | simp [isSet] at h
theorem g_cmp (O : Cok X C sc l) {op : COp} {a b : CE} {x y : Expr} {p : Pos} (hs : isSet y = false) (ha : PE X x (rE T X.K n l a)) (hb : PE X y (rE T X.K n l b)) : PE X (.Compare x [copOf op] [y] p) (rE T X.K (n + 1) l (.cmp op a b)) := by
  refine PE.imp (pe_cmpR (op_cmp O.u65 op) ha hb (mark_no hs)) fun σ H Q ⟨m, h, sg, q, R, S, e, P⟩ => ?_
  simp only [evs, step, stepE] at e
  obtain ⟨p1, e1, e⟩ := bnd e
  obtain ⟨p2, e2, e⟩ := bnd e
  obtain ⟨k, e3, e⟩ := bnd e
  cases e
  refine ⟨m, h, sg, p1, R, S, e1, fun m1 H1 v x1 R1 r1 => ⟨m1, p1.2, sg, p2, R1, x1.sr R S, e2, fun m2 H2 u x2 R2 r2 => ?_⟩⟩
  exact cmp_ok e3 R2 (x2.rl R1 r1) r2 (P m2 H2 _ (x1.trans R1 x2) R2 rfl)
theorem g_chn (O : Cok X C sc l) {o1 o2 : COp} {a b c : CE} {x y z : Expr} {p : Pos} (hs : isSet z = false) (ha : PE X x (rE T X.K n l a)) (hb : PE X y (rE T X.K n l b)) (hc : PE X z (rE T X.K n l c)) :
    PE X (.Compare x [copOf o1, copOf o2] [y, z] p) (rE T X.K (n + 1) l (.chn o1 o2 a b c)) := by
  refine PE.imp (pe_chain (op_cmp O.u65 o1) (op_cmp O.u65 o2) ha hb hc (mark_no hs)) fun σ H Q ⟨m, h, sg, q, R, S, e, P⟩ => ?_
  simp only [evs, step, stepE] at e
  obtain ⟨p1, e1, e⟩ := bnd e
  obtain ⟨p2, e2, e⟩ := bnd e
  obtain ⟨k, e3, e⟩ := bnd e
  refine ⟨m, h, sg, p1, R, S, e1, fun m1 H1 v x1 R1 r1 => ⟨m1, p1.2, sg, p2, R1, x1.sr R S, e2, fun m2 H2 u x2 R2 r2 => ?_⟩⟩
  refine cmp_ok e3 R2 (x2.rl R1 r1) r2 ⟨k, rfl, ?_⟩
  have x12 := x1.trans R1 x2
  cases k with
  | false =>
    rw [if_neg Bool.false_ne_true] at e ⊢
    cases e
    exact P m2 H2 _ x12 R2 rfl
  | true =>
    rw [if_pos rfl] at e ⊢
    obtain ⟨p3, e4, e⟩ := bnd e
    obtain ⟨k2, e5, e⟩ := bnd e
    cases e
    refine ⟨m2, p2.2, sg, p3, R2, x12.sr R S, e4, fun m3 H3 w x3 R3 r3 => ?_⟩
    exact cmp_ok e5 R3 (x3.rl R2 r2) r3 (P m3 H3 _ (x12.trans R2 x3) R3 rfl)
end
end Ez

/-! E4e: expressions, further -/
namespace Ez
open PySem PySem.Spec PyProof.Rows L2
section
variable {T : Tab} {X : Cx} {C : Ck} {sc : Scope} {n l : Nat}
/-! ### and, or -/
theorem g_and1 {a : CE} {x : Expr} {p : Pos} (ha : PE X x (rE T X.K n l a)) : PE X (.BoolOp .And [x] p) (rE T X.K (n + 1) l (.and_ [a])) :=
  PE.imp (pe_one ha) fun σ H Q ⟨m, h, sg, q, R, S, e, P⟩ => ⟨m, h, sg, q, R, S, e, P⟩
theorem g_or1 {a : CE} {x : Expr} {p : Pos} (ha : PE X x (rE T X.K n l a)) : PE X (.BoolOp .Or [x] p) (rE T X.K (n + 1) l (.or_ [a])) :=
  PE.imp (pe_one ha) fun σ H Q ⟨m, h, sg, q, R, S, e, P⟩ => ⟨m, h, sg, q, R, S, e, P⟩
theorem g_and {a b : CE} {t : List CE} {x y : Expr} {r : List Expr} {p : Pos} (ha : PE X x (rE T X.K n l a)) (hb : PE X (.BoolOp .And (y :: r) p) (rE T X.K n l (.and_ (b :: t)))) : PE X (.BoolOp .And (x :: y :: r) p) (rE T X.K (n + 1) l (.and_ (a :: b :: t))) := by
  refine PE.imp (pe_and ha hb) fun σ H Q ⟨m, h, sg, q, R, S, e, P⟩ => ?_
  simp only [evs, step, stepE] at e
  obtain ⟨p1, e1, e⟩ := bnd e
  refine ⟨m, h, sg, p1, R, S, e1, fun m1 H1 v x1 R1 r1 => ?_⟩
  obtain ⟨d1, h1⟩ := p1
  cases d1 <;> try (simp at e; done)
  rename_i c
  simp only [Rl] at r1
  cases c with
  | true => exact ⟨true, r1, by rw [if_pos rfl]; exact ⟨m1, h1, sg, q, R1, x1.sr R S, e, P.after R1 x1⟩⟩
  | false =>
    simp only [Option.some.injEq] at e
    subst e
    exact ⟨false, r1, by rw [if_neg Bool.false_ne_true]; exact P m1 H1 _ x1 R1 rfl⟩
theorem g_or {a b : CE} {t : List CE} {x y : Expr} {r : List Expr} {p : Pos} (ha : PE X x (rE T X.K n l a)) (hb : PE X (.BoolOp .Or (y :: r) p) (rE T X.K n l (.or_ (b :: t)))) : PE X (.BoolOp .Or (x :: y :: r) p) (rE T X.K (n + 1) l (.or_ (a :: b :: t))) := by
  refine PE.imp (pe_or ha hb) fun σ H Q ⟨m, h, sg, q, R, S, e, P⟩ => ?_
  simp only [evs, step, stepE] at e
  obtain ⟨p1, e1, e⟩ := bnd e
  refine ⟨m, h, sg, p1, R, S, e1, fun m1 H1 v x1 R1 r1 => ?_⟩
  obtain ⟨d1, h1⟩ := p1
  cases d1 <;> try (simp at e; done)
  rename_i c
  simp only [Rl] at r1
  cases c with
  | false => exact ⟨false, r1, by rw [if_neg Bool.false_ne_true]; exact ⟨m1, h1, sg, q, R1, x1.sr R S, e, P.after R1 x1⟩⟩
  | true =>
    simp only [Option.some.injEq] at e
    subst e
    exact ⟨true, r1, by rw [if_pos rfl]; exact P m1 H1 _ x1 R1 rfl⟩
/-! ### tests -/
theorem w_and1 {a : CE} {x : Expr} {p : Pos} (ha : PT X x (rT T X.K n l a)) : PW X (.BoolOp .And [x] p) (rT T X.K (n + 1) l (.and_ [a])) :=
  PW.imp (pw_and1 ha) fun σ H Q ⟨m, h, sg, q, R, S, e, P⟩ => ⟨m, h, sg, q, R, S, e, P⟩
theorem w_or1 {a : CE} {x : Expr} {p : Pos} (ha : PT X x (rT T X.K n l a)) : PW X (.BoolOp .Or [x] p) (rT T X.K (n + 1) l (.or_ [a])) :=
  PW.imp (pw_or1 ha) fun σ H Q ⟨m, h, sg, q, R, S, e, P⟩ => ⟨m, h, sg, q, R, S, e, P⟩
theorem w_and {a b : CE} {t : List CE} {x y : Expr} {r : List Expr} {p : Pos} (ha : PT X x (rT T X.K n l a)) (hb : PW X (.BoolOp .And (y :: r) p) (rT T X.K n l (.and_ (b :: t)))) : PW X (.BoolOp .And (x :: y :: r) p) (rT T X.K (n + 1) l (.and_ (a :: b :: t))) := by
  refine PW.imp (pw_and ha hb) fun σ H Q ⟨m, h, sg, q, R, S, e, P⟩ => ?_
  simp only [evs, step] at e
  obtain ⟨p1, e1, e⟩ := bnd e
  refine ⟨m, h, sg, p1, R, S, e1, fun m1 H1 x1 R1 => ?_⟩
  split at e
  · rename_i hb
    rw [if_pos hb]
    exact ⟨m1, p1.2, sg, q, R1, x1.sr R S, e, P.after R1 x1⟩
  · rename_i hb
    rw [if_neg hb]
    cases e
    exact P m1 H1 x1 R1
theorem w_or {a b : CE} {t : List CE} {x y : Expr} {r : List Expr} {p : Pos} (ha : PT X x (rT T X.K n l a)) (hb : PW X (.BoolOp .Or (y :: r) p) (rT T X.K n l (.or_ (b :: t)))) : PW X (.BoolOp .Or (x :: y :: r) p) (rT T X.K (n + 1) l (.or_ (a :: b :: t))) := by
  refine PW.imp (pw_or ha hb) fun σ H Q ⟨m, h, sg, q, R, S, e, P⟩ => ?_
  simp only [evs, step] at e
  obtain ⟨p1, e1, e⟩ := bnd e
  refine ⟨m, h, sg, p1, R, S, e1, fun m1 H1 x1 R1 => ?_⟩
  split at e
  · rename_i hb
    rw [if_pos hb]
    cases e
    exact P m1 H1 x1 R1
  · rename_i hb
    rw [if_neg hb]
    exact ⟨m1, p1.2, sg, q, R1, x1.sr R S, e, P.after R1 x1⟩
/-- expressions whose test is the truth of their value -/
def plainT : Expr → Bool
  | .Name .. => true | .Call .. => true | .Subscript .. => true | .Constant .. => true | .BinOp .. => true
  | .List .. => true | .Tuple .. => true | .ListComp .. => true | .DictComp .. => true | .Dict .. => true
  | _ => false
theorem plainT_eq {e : Expr} {env : Env} (h : plainT e = true) : ∀ whole, isTrue e env whole = (do let v ← whole; standAt e.pos; holding [v] (truthy v)) := by
  intro whole
  cases e <;> first | rfl | simp [plainT] at h
theorem t_val {c : CE} {x : Expr} (hp : plainT x = true) (hx : PE X x (rE T X.K n l c)) (hc : ∀ r sg h, step T r .t (l, c, sg, h) = (r .e (l, c, sg, h)).bind fun p => (truth p.2 p.1).bind fun k => some (k, p.2)) : PT X x (rT T X.K (n + 1) l c) := by
  refine PT.imp (pt_truth hx (plainT_eq hp)) fun σ H Q ⟨m, h, sg, q, R, S, e, P⟩ => ?_
  have e : step T (evs T n) .t (l, c, sg, h) = some q := e
  rw [hc] at e
  obtain ⟨p1, e1, e⟩ := bnd e
  obtain ⟨k, e2, e⟩ := bnd e
  cases e
  exact ⟨m, h, sg, p1, R, S, e1, fun m1 H1 v x1 R1 r1 => ⟨k, tru_ok' e2 R1 r1, P m1 H1 x1 R1⟩⟩
/-- a comparison as a test -/
theorem t_cmp (O : Cok X C sc l) {op : COp} {a b : CE} {x y : Expr} {p : Pos} (hs : isSet y = false) (ha : PE X x (rE T X.K n l a)) (hb : PE X y (rE T X.K n l b)) : PT X (.Compare x [copOf op] [y] p) (rT T X.K (n + 2) l (.cmp op a b)) := by
  refine PT.imp (pt_cmpR (op_cmp O.u65 op) ha hb (mark_no hs)) fun σ H Q ⟨m, h, sg, q, R, S, e, P⟩ => ?_
  simp only [evs, step, stepE] at e
  obtain ⟨p0, e0, e⟩ := bnd e
  obtain ⟨p1, e1, e0⟩ := bnd e0
  obtain ⟨p2, e2, e0⟩ := bnd e0
  obtain ⟨k, e3, e0⟩ := bnd e0
  cases e0
  simp only [truth, Option.bind_some, Option.some.injEq] at e
  subst e
  refine ⟨m, h, sg, p1, R, S, e1, fun m1 H1 v x1 R1 r1 => ⟨m1, p1.2, sg, p2, R1, x1.sr R S, e2, fun m2 H2 u x2 R2 r2 => ?_⟩⟩
  exact cmp_ok e3 R2 (x2.rl R1 r1) r2 ⟨k, rfl, P m2 H2 (x1.trans R1 x2) R2⟩
theorem t_chn (O : Cok X C sc l) {o1 o2 : COp} {a b c : CE} {x y z : Expr} {p : Pos} (hs : isSet z = false) (ha : PE X x (rE T X.K n l a)) (hb : PE X y (rE T X.K n l b)) (hc : PE X z (rE T X.K n l c)) :
    PT X (.Compare x [copOf o1, copOf o2] [y, z] p) (rT T X.K (n + 2) l (.chn o1 o2 a b c)) := by
  refine PT.imp (pt_chain (op_cmp O.u65 o1) (op_cmp O.u65 o2) ha hb hc (mark_no hs)) fun σ H Q ⟨m, h, sg, q, R, S, e, P⟩ => ?_
  simp only [evs, step, stepE] at e
  obtain ⟨p0, e0, e⟩ := bnd e
  obtain ⟨p1, e1, e0⟩ := bnd e0
  obtain ⟨p2, e2, e0⟩ := bnd e0
  obtain ⟨k, e3, e0⟩ := bnd e0
  refine ⟨m, h, sg, p1, R, S, e1, fun m1 H1 v x1 R1 r1 => ⟨m1, p1.2, sg, p2, R1, x1.sr R S, e2, fun m2 H2 u x2 R2 r2 => ?_⟩⟩
  refine cmp_ok e3 R2 (x2.rl R1 r1) r2 ⟨k, rfl, ?_⟩
  have x12 := x1.trans R1 x2
  cases k with
  | false =>
    rw [if_neg Bool.false_ne_true] at e0 ⊢
    cases e0
    simp only [truth, Option.bind_some, Option.some.injEq] at e
    subst e
    exact ⟨false, rfl, P m2 H2 x12 R2⟩
  | true =>
    rw [if_pos rfl] at e0 ⊢
    obtain ⟨p3, e4, e0⟩ := bnd e0
    obtain ⟨k2, e5, e0⟩ := bnd e0
    cases e0
    simp only [truth, Option.bind_some, Option.some.injEq] at e
    subst e
    refine ⟨m2, p2.2, sg, p3, R2, x12.sr R S, e4, fun m3 H3 w x3 R3 r3 => ?_⟩
    exact cmp_ok e5 R3 (x3.rl R2 r2) r3 ⟨k2, rfl, P m3 H3 (x12.trans R2 x3) R3⟩
/-! ### lists of expressions -/
theorem g_nil : PA X [] (rEs T X.K (n + 1) l []) := by
  refine PA.imp pa_nil fun σ H Q ⟨m, h, sg, q, R, S, e, P⟩ => ?_
  simp only [evs, step, Option.some.injEq] at e
  subst e
  exact P m H [] Ext.refl R rfl
theorem g_cons {a : CE} {t : List CE} {x : Expr} {r : List Expr} (hs : isStar x = false) (ha : PE X x (rE T X.K n l a)) (hr : PA X r (rEs T X.K n l t)) : PA X (x :: r) (rEs T X.K (n + 1) l (a :: t)) := by
  refine PA.imp (pa_cons ha hr (star_cons hs)) fun σ H Q ⟨m, h, sg, q, R, S, e, P⟩ => ?_
  simp only [evs, step] at e
  obtain ⟨p1, e1, e⟩ := bnd e
  obtain ⟨p2, e2, e⟩ := bnd e
  cases e
  refine ⟨m, h, sg, p1, R, S, e1, fun m1 H1 v x1 R1 r1 => ⟨m1, p1.2, sg, p2, R1, x1.sr R S, e2, fun m2 H2 us x2 R2 r2 => ?_⟩⟩
  exact P m2 H2 _ (x1.trans R1 x2) R2 (Rls.cons (x2.rl R1 r1) r2)
theorem s_nil : PA X [] (rSp T X.K (n + 1) l []) := by
  refine PA.imp pa_nil fun σ H Q ⟨m, h, sg, q, R, S, e, P⟩ => ?_
  simp only [evs, step, Option.some.injEq] at e
  subst e
  exact P m H [] Ext.refl R rfl
theorem s_cons {a : CE} {t : List (Bool × CE)} {x : Expr} {r : List Expr} (hs : isStar x = false) (ha : PE X x (rE T X.K n l a)) (hr : PA X r (rSp T X.K n l t)) : PA X (x :: r) (rSp T X.K (n + 1) l ((false, a) :: t)) := by
  refine PA.imp (pa_cons ha hr (star_cons hs)) fun σ H Q ⟨m, h, sg, q, R, S, e, P⟩ => ?_
  simp only [evs, step] at e
  obtain ⟨p1, e1, e⟩ := bnd e
  obtain ⟨p2, e2, e⟩ := bnd e
  cases e
  refine ⟨m, h, sg, p1, R, S, e1, fun m1 H1 v x1 R1 r1 => ⟨m1, p1.2, sg, p2, R1, x1.sr R S, e2, fun m2 H2 us x2 R2 r2 => ?_⟩⟩
  exact P m2 H2 _ (x1.trans R1 x2) R2 (Rls.cons (x2.rl R1 r1) r2)
theorem s_star {a : CE} {t : List (Bool × CE)} {x : Expr} {p : Pos} {r : List Expr} (ha : PE X x (rE T X.K n l a)) (hr : PA X r (rSp T X.K n l t)) : PA X (.Starred x p :: r) (rSp T X.K (n + 1) l ((true, a) :: t)) := by
  refine PA.imp (StX.pa_star ha hr) fun σ H Q ⟨m, h, sg, q, R, S, e, P⟩ => ?_
  simp only [evs, step] at e
  obtain ⟨p1, e1, e⟩ := bnd e
  obtain ⟨xs, e3, e⟩ := bnd e
  obtain ⟨p2, e2, e⟩ := bnd e
  cases e
  refine ⟨m, h, sg, p1, R, S, e1, fun m1 H1 v x1 R1 r1 => ?_⟩
  have go : ∀ vs, Rls X.K m1 H1 xs vs → rSp T X.K n l t σ H1 fun ys H2 => Q (vs ++ ys) H2 := fun vs rs =>
    ⟨m1, p1.2, sg, p2, R1, x1.sr R S, e2, fun m2 H2 us x2 R2 r2 => P m2 H2 _ (x1.trans R1 x2) R2 ((x2.rls R1 rs).append r2)⟩
  obtain ⟨d1, h1⟩ := p1
  cases d1 with
  | tup ys =>
    cases e3
    simp only [Rl] at r1
    obtain ⟨b, vs, rfl, qb, rs⟩ := r1
    exact ⟨b, vs, rfl, .inl qb.sq, go vs rs⟩
  | ref k =>
    obtain ⟨b, vs, rfl, _, qb, rs⟩ := getL_ok R1 e3 r1
    exact ⟨b, vs, rfl, .inr qb, go vs rs⟩
  | _ => cases e3
theorem g_tup {cs : List (Bool × CE)} {es : List Expr} {k : Nat} {p : Pos} (h : PA X es (rSp T X.K n l cs)) : PE X (.Tuple es k p) (rE T X.K (n + 1) l (.tup cs)) := by
  refine PE.imp (pe_tupF h) fun σ H Q ⟨m, h, sg, q, R, S, e, P⟩ => ?_
  simp only [evs, step, stepE] at e
  obtain ⟨p1, e1, e⟩ := bnd e
  split at e
  · rename_i hl
    cases e
    refine ⟨m, h, sg, p1, R, S, e1, fun m1 H1 vs x1 R1 r1 => ⟨by rw [r1.length, ← SL_eq]; exact hl, ?_⟩⟩
    exact (P.after R1 x1).newT R1 r1
  · cases e
theorem g_lst {cs : List CE} {es : List Expr} {p : Pos} (h : PA X es (rEs T X.K n l cs)) : PE X (.List es p) (rE T X.K (n + 1) l (.lst cs)) := by
  refine PE.imp (pe_lst h) fun σ H Q ⟨m, h, sg, q, R, S, e, P⟩ => ?_
  simp only [evs, step, stepE] at e
  obtain ⟨p1, e1, e⟩ := bnd e
  split at e
  · rename_i hl
    obtain ⟨d, h2⟩ := q
    obtain ⟨rfl, rfl⟩ := alloc_some e
    refine ⟨m, h, sg, p1, R, S, e1, fun m1 H1 vs x1 R1 r1 => ⟨by rw [r1.length, ← SL_eq]; exact hl, fun a ha => ?_⟩⟩
    exact (P.after R1 x1).newL R1 ha r1
  · cases e
end
end Ez

/-! E4f: calls, places, iterables -/
namespace Ez
open PySem PySem.Spec PyProof.Rows L2
/-! ### the objects that are left behind a call -/
section
variable {K : Fg}
mutual
theorem ren_ok {m : List Addr} {H : Hp} {ks : List Nat} {b : Nat} {pre : List Addr} {ms : List Addr} (hb : pre.length = b) (hk : ∀ (k i : Nat), pos k ks b = some i → ∀ a, m[k]? = some a → (pre ++ ms)[i]? = some a) :
    ∀ (d d' : D) (v : V), ren ks b d = some d' → Rl K m H d v → Rl K (pre ++ ms) H d' v
  | .non, _, _, e, r => by cases e; exact r
  | .bl _, _, _, e, r => by cases e; exact r
  | .int _, _, _, e, r => by cases e; exact r
  | .str _, _, _, e, r => by cases e; exact r
  | .rp _, _, _, e, r => by cases e; exact r
  | .ptp _, _, _, e, r => by cases e
  | .tup xs, _, _, e, r => by
    simp only [ren] at e
    obtain ⟨ys, e1, e⟩ := bnd e
    cases e
    simp only [Rl] at r ⊢
    obtain ⟨a, vs, h1, h2, h3⟩ := r
    exact ⟨a, vs, h1, h2, rens_ok hb hk xs ys vs e1 h3⟩
  | .ref k, _, _, e, r => by
    simp only [ren] at e
    obtain ⟨i, e1, e⟩ := bnd e
    cases e
    simp only [Rl] at r ⊢
    obtain ⟨a, h1, h2⟩ := r
    exact ⟨a, h1, hk k i e1 a h2⟩
theorem rens_ok {m : List Addr} {H : Hp} {ks : List Nat} {b : Nat} {pre : List Addr} {ms : List Addr} (hb : pre.length = b) (hk : ∀ (k i : Nat), pos k ks b = some i → ∀ a, m[k]? = some a → (pre ++ ms)[i]? = some a) :
    ∀ (ds ds' : List D) (vs : List V), rens ks b ds = some ds' → Rls K m H ds vs → Rls K (pre ++ ms) H ds' vs
  | [], _, _, e, r => by cases e; exact r
  | d :: ds, _, _, e, r => by
    simp only [rens] at e
    obtain ⟨y, e1, e⟩ := bnd e
    obtain ⟨ys, e2, e⟩ := bnd e
    cases e
    simp only [Rls] at r
    obtain ⟨v, t, rfl, r1, r2⟩ := r
    exact ⟨v, t, rfl, ren_ok hb hk d y v e1 r1, rens_ok hb hk ds ys t e2 r2⟩
end
theorem rens_len {ks : List Nat} {b : Nat} : ∀ {ds ds' : List D}, rens ks b ds = some ds' → ds'.length = ds.length
  | [], _, e => by cases e; rfl
  | d :: ds, _, e => by
    simp only [rens] at e
    obtain ⟨y, e1, e⟩ := bnd e
    obtain ⟨ys, e2, e⟩ := bnd e
    cases e
    simp [rens_len e2]
theorem renK_ok {m : List Addr} {H : Hp} {ks : List Nat} {b : Nat} {pre ms : List Addr} (hb : pre.length = b) (hk : ∀ (k i : Nat), pos k ks b = some i → ∀ a, m[k]? = some a → (pre ++ ms)[i]? = some a) :
    ∀ (kvs : List (D × D)) (ys : List D) (L : List (Key × V)), rens ks b (kvs.map (·.2)) = some ys → RlK K m H kvs L → RlK K (pre ++ ms) H ((kvs.map (·.1)).zip ys) L
  | [], _, _, e, r => by cases e; exact r
  | (k, x) :: kvs, _, _, e, r => by
    simp only [List.map_cons, rens] at e
    obtain ⟨y, e1, e⟩ := bnd e
    obtain ⟨zs, e2, e⟩ := bnd e
    cases e
    obtain ⟨q, v, t, rfl, h2, r1, r2⟩ := r
    exact ⟨q, v, t, rfl, h2, ren_ok hb hk x y v e1 r1, renK_ok hb hk kvs zs t e2 r2⟩
mutual
theorem nD_any {m m' : List Addr} {H : Hp} : ∀ (q : NestedKey) (v : V), noTx q = true → Rl K m H (nD q) v → Rl K m' H (nD q) v
  | .none, _, _, r => r
  | .num _, _, _, r => r
  | .text _, _, n, _ => by cases n
  | .tup ks, _, n, r => by
    simp only [nD, Rl] at r ⊢
    obtain ⟨a, vs, h1, h2, h3⟩ := r
    exact ⟨a, vs, h1, h2, nDs_any ks vs (by simpa [noTx] using n) h3⟩
theorem nDs_any {m m' : List Addr} {H : Hp} : ∀ (q : List NestedKey) (v : List V), noTxs q = true → Rls K m H (nDs q) v → Rls K m' H (nDs q) v
  | [], _, _, r => r
  | k :: ks, _, n, r => by
    simp only [noTxs, Bool.and_eq_true] at n
    simp only [nDs, Rls] at r ⊢
    obtain ⟨v, t, h1, h2, h3⟩ := r
    exact ⟨v, t, h1, nD_any k v n.1 h2, nDs_any ks t n.2 h3⟩
end
theorem renT_ok {m : List Addr} {H : Hp} {ks : List Nat} {b : Nat} {pre ms : List Addr} (hb : pre.length = b) (hk : ∀ (k i : Nat), pos k ks b = some i → ∀ a, m[k]? = some a → (pre ++ ms)[i]? = some a) :
    ∀ (kvs : List (D × D)) (ys : List D) (L : List (NestedKey × Addr × V)), rens ks b (kvs.map (·.2)) = some ys → RlT K m H kvs L → RlT K (pre ++ ms) H ((kvs.map (·.1)).zip ys) L
  | [], _, _, e, r => by cases e; exact r
  | (k, x) :: kvs, _, _, e, r => by
    simp only [List.map_cons, rens] at e
    obtain ⟨y, e1, e⟩ := bnd e
    obtain ⟨zs, e2, e⟩ := bnd e
    cases e
    obtain ⟨q, c, v, t, rfl, rfl, n1, d1, rk, r1, r2⟩ := r
    exact ⟨q, c, v, t, rfl, rfl, n1, d1, nD_any q _ n1 rk, ren_ok hb hk x y v e1 r1, renT_ok hb hk kvs zs t e2 r2⟩
theorem renO_ok {m : List Addr} {H : Hp} {ks : List Nat} {b : Nat} {pre ms : List Addr} (hb : pre.length = b) (hk : ∀ (k i : Nat), pos k ks b = some i → ∀ a, m[k]? = some a → (pre ++ ms)[i]? = some a) {o o' : O} {a : Addr}
    (e : renO ks b o = some o') (r : RlO K m H a o) : RlO K (pre ++ ms) H a o' := by
  cases o with
  | lst xs =>
    simp only [renO] at e
    obtain ⟨ys, e1, e⟩ := bnd e
    cases e
    obtain ⟨vs, h1, h2⟩ := r
    exact ⟨vs, h1, rens_ok hb hk xs ys vs e1 h2⟩
  | frz xs => cases e
  | dK kvs =>
    simp only [renO] at e
    obtain ⟨ys, e1, e⟩ := bnd e
    cases e
    obtain ⟨L, h1, h2⟩ := r
    exact ⟨L, h1, renK_ok hb hk kvs ys L e1 h2⟩
  | dT kvs =>
    simp only [renO] at e
    obtain ⟨ys, e1, e⟩ := bnd e
    cases e
    obtain ⟨L, h1, h2⟩ := r
    exact ⟨L, h1, renT_ok hb hk kvs ys L e1 h2⟩
theorem pos_ok : ∀ {ks : List Nat} {k b i : Nat}, pos k ks b = some i → ∃ j, i = b + j ∧ ks[j]? = some k
  | [], _, _, _, e => by cases e
  | x :: r, k, b, i, e => by
    simp only [pos] at e
    split at e
    · rename_i hx
      cases e
      exact ⟨0, rfl, by simpa using hx⟩
    · obtain ⟨j, h1, h2⟩ := pos_ok e
      exact ⟨j + 1, by omega, by simpa using h2⟩
theorem mapO_get {α β : Type} {f : α → Option β} : ∀ {l : List α} {l' : List β} {j : Nat} {a : α}, mapO f l = some l' → l[j]? = some a → ∃ b, l'[j]? = some b ∧ f a = some b
  | [], _, _, _, _, h => by simp at h
  | x :: l, _, 0, a, e, h => by
    simp only [mapO] at e
    obtain ⟨y, e1, e⟩ := bnd e
    obtain ⟨ys, e2, e⟩ := bnd e
    cases e
    simp at h
    subst h
    exact ⟨y, rfl, e1⟩
  | x :: l, _, j + 1, a, e, h => by
    simp only [mapO] at e
    obtain ⟨y, e1, e⟩ := bnd e
    obtain ⟨ys, e2, e⟩ := bnd e
    cases e
    obtain ⟨b, h1, h2⟩ := mapO_get e2 (by simpa using h)
    exact ⟨b, by simpa using h1, h2⟩
theorem mapO_len {α β : Type} {f : α → Option β} : ∀ {l : List α} {l' : List β}, mapO f l = some l' → l'.length = l.length
  | [], _, e => by cases e; rfl
  | x :: l, _, e => by
    simp only [mapO] at e
    obtain ⟨y, e1, e⟩ := bnd e
    obtain ⟨ys, e2, e⟩ := bnd e
    cases e
    simp [mapO_len e2]
theorem reach_nd (h : Hh) : ∀ (f : Nat) (todo done : List Nat), done.Nodup → (reach h f todo done).Nodup
  | 0, _, _, hd => hd
  | _ + 1, [], _, hd => hd
  | f + 1, n :: todo, done, hd => by
    unfold reach
    split
    · exact reach_nd h f todo done hd
    · rename_i hn
      refine reach_nd h f _ _ ?_
      rw [List.nodup_append]
      refine ⟨hd, by simp, fun a ha b hb => ?_⟩
      have e : b = n := by simpa using hb
      subst e
      rintro rfl
      exact hn (by simpa using ha)
theorem map_nd {f : Nat → Addr} : ∀ {ks : List Nat}, ks.Nodup → (∀ a ∈ ks, ∀ b ∈ ks, f a = f b → a = b) → (ks.map f).Nodup
  | [], _, _ => by simp
  | k :: ks, nd, h => by
    rw [List.nodup_cons] at nd
    rw [List.map_cons, List.nodup_cons]
    refine ⟨fun z => ?_, map_nd nd.2 fun a ha b hb e => h a (List.mem_cons_of_mem _ ha) b (List.mem_cons_of_mem _ hb) e⟩
    obtain ⟨b, hb, e⟩ := List.mem_map.mp z
    have := h b (List.mem_cons_of_mem _ hb) k List.mem_cons_self e
    subst this
    exact nd.1 hb
/-- behind a call that was run by itself: what its value names joins the caller's heap -/
theorem kept_ok {m : List Addr} {h hc : Hh} {H Hc : Hp} {d d' : D} {v : V} {mc : List Addr} {os : Hh} (R : Hr K m h H) (e : kept hc d h.length = some (d', os)) (Rc : Hr K mc hc Hc) (x : Ext [] mc H Hc) (r : Rl K mc Hc d v) :
    ∃ m', Ext m m' H Hc ∧ Hr K m' (h ++ os) Hc ∧ Rl K m' Hc d' v := by
  unfold kept at e
  simp only at e
  obtain ⟨d2, e1, e⟩ := bnd e
  obtain ⟨os2, e2, e⟩ := bnd e
  cases e
  generalize hks : reach hc 100000 (refs d) [] = ks at e1 e2
  have nd : ks.Nodup := by rw [← hks]; exact reach_nd hc _ _ _ .nil
  -- the addresses of the objects that are kept
  have all : ∀ (j k : Nat), ks[j]? = some k → ∃ o a, hc[k]? = some o ∧ mc[k]? = some a := fun j k hj => by
    obtain ⟨b, h1, h2⟩ := mapO_get e2 hj
    obtain ⟨o, h3, _⟩ := bnd h2
    obtain ⟨a, h4, _⟩ := Rc.at h3
    exact ⟨o, a, h3, h4⟩
  let ms : List Addr := ks.map fun k => (mc[k]?).getD 0
  have msj : ∀ (j k : Nat) (a : Addr), ks[j]? = some k → mc[k]? = some a → ms[j]? = some a := fun j k a h1 h2 => by
    show (ks.map _)[j]? = _
    rw [List.getElem?_map, h1]
    simp [h2]
  have hk : ∀ (k i : Nat), pos k ks h.length = some i → ∀ a, mc[k]? = some a → (m ++ ms)[i]? = some a := fun k i hp a ha => by
    obtain ⟨j, rfl, hj⟩ := pos_ok hp
    rw [← R.len, List.getElem?_append_right (by omega)]
    have : m.length + j - m.length = j := by omega
    rw [this]
    exact msj j k a hj ha
  have fresh : ∀ a ∈ mc, H a = none := fun a ha => by
    obtain ⟨t, h1, h2⟩ := x.pre
    rw [List.nil_append] at h1
    exact h2 a (h1 ▸ ha)
  have msmem : ∀ a ∈ ms, a ∈ mc := fun a ha => by
    obtain ⟨j, hj⟩ := List.getElem?_of_mem ha
    have hj2 : (ks.map fun k => (mc[k]?).getD 0)[j]? = some a := hj
    rw [List.getElem?_map] at hj2
    cases q : ks[j]? with
    | none => rw [q] at hj2; cases hj2
    | some k =>
      obtain ⟨o, b, _, hb⟩ := all j k q
      rw [q] at hj2
      simp only [Option.map_some, Option.some.injEq] at hj2
      rw [hb] at hj2
      have : b = a := hj2
      subst this
      exact List.mem_of_getElem? hb
  have E : Ext m (m ++ ms) H Hc := ⟨⟨ms, rfl, fun a ha => fresh a (msmem a ha)⟩, fun a o q _ => x.out a o q (by simp)⟩
  refine ⟨m ++ ms, E, ⟨?_, ?_, fun j o a h1 h2 => ?_⟩, ren_ok R.len hk d _ v e1 r⟩
  · rw [List.length_append, List.length_append, R.len, mapO_len e2]
    simp [ms]
  · rw [List.nodup_append]
    refine ⟨R.nd, ?_, fun a ha b hb => ?_⟩
    · refine map_nd nd fun k hk1 k2 hk2 hf => ?_
      obtain ⟨j, hj⟩ := List.getElem?_of_mem hk1
      obtain ⟨j2, hj2⟩ := List.getElem?_of_mem hk2
      obtain ⟨_, b, _, hb⟩ := all j k hj
      obtain ⟨_, b2, _, hb2⟩ := all j2 k2 hj2
      rw [hb, hb2] at hf
      have : b = b2 := hf
      subst this
      exact (List.getElem?_inj (List.getElem?_eq_some_iff.mp hb).1 Rc.nd).mp (hb.trans hb2.symm)
    · rintro rfl
      obtain ⟨u, hu, _⟩ := R.mem ha
      rw [fresh a (msmem a hb)] at hu
      cases hu
  · by_cases hj : j < h.length
    · rw [List.getElem?_append_left hj] at h1
      rw [List.getElem?_append_left (by rw [R.len]; exact hj)] at h2
      have q := R.ob j o a h1 h2
      obtain ⟨u, hu, _⟩ := q.smt
      exact q.mono E.ix (E.tup R) ((x.out a u hu (by simp)).trans hu.symm)
    · rw [List.getElem?_append_right (by omega)] at h1
      rw [List.getElem?_append_right (by rw [R.len]; omega)] at h2
      rw [R.len] at h2
      generalize j - h.length = i at h1 h2
      have h2' : (ks.map fun k => (mc[k]?).getD 0)[i]? = some a := h2
      rw [List.getElem?_map] at h2'
      cases q : ks[i]? with
      | none => rw [q] at h2'; cases h2'
      | some k =>
        obtain ⟨b, g1, g2⟩ := mapO_get e2 q
        rw [h1] at g1
        cases g1
        obtain ⟨oc, g3, g4⟩ := bnd g2
        obtain ⟨ac, g5, g6⟩ := Rc.at g3
        rw [q] at h2'
        simp only [Option.map_some, Option.some.injEq] at h2'
        rw [g5] at h2'
        have : ac = a := h2'
        subst this
        exact renO_ok R.len hk g4 g6
end
end Ez

/-! E4g: calls, places, iterables -/
namespace Ez
open PySem PySem.Spec PyProof.Rows L2
section
variable {K : Fg} {m m' : List Addr} {H : Hp}
mutual
theorem noref_rl : ∀ (d : D) (v : V), noref d = true → Rl K m H d v → Rl K m' H d v
  | .non, _, _, r => r
  | .bl _, _, _, r => r
  | .int _, _, _, r => r
  | .str _, _, _, r => r
  | .rp _, _, _, r => r
  | .ref _, _, e, _ => by simp [noref] at e
  | .tup xs, _, e, r => by
    simp only [noref] at e
    simp only [Rl] at r ⊢
    obtain ⟨a, vs, h1, h2, h3⟩ := r
    exact ⟨a, vs, h1, h2, norefs_rl xs vs e h3⟩
theorem norefs_rl : ∀ (ds : List D) (vs : List V), norefs ds = true → Rls K m H ds vs → Rls K m' H ds vs
  | [], _, _, r => r
  | d :: ds, _, e, r => by
    simp only [norefs, Bool.and_eq_true] at e
    simp only [Rls] at r
    obtain ⟨v, t, rfl, r1, r2⟩ := r
    exact ⟨v, t, rfl, noref_rl d v e.1 r1, norefs_rl ds t e.2 r2⟩
end
theorem Hr.empty : Hr K [] [] H := ⟨rfl, .nil, fun n o a e => by simp at e⟩
end
section
variable {T : Tab} {X : Cx} {C : Ck} {sc : Scope} {n l : Nat}
theorem docall_ok {f : Nat} {as : List D} {h : Hh} {q : D × Hh} {m : List Addr} {H : Hp} {vs : List V} {Q : VK} (e : docall (evs T n) l f as h = some q) (R : Hr X.K m h H) (rs : Rls X.K m H as vs) (P : Post X.K m q.2 q.1 H Q) : rCa T X.K n l f vs H Q E0 := by
  unfold docall at e
  split at e
  · rename_i hn
    obtain ⟨p, e1, e⟩ := bnd e
    obtain ⟨k, e2, e⟩ := bnd e
    cases e
    refine ⟨[], [], as, p, Hr.empty, norefs_rl as vs hn rs, e1, fun mc Hc v x Rc r => ?_⟩
    obtain ⟨m', x', R', r'⟩ := kept_ok R e2 Rc x r
    exact P m' Hc v x' R' r'
  · exact ⟨m, h, as, q, R, rs, e, P⟩
theorem g_call (O : Cok X C sc l) (Fs : FnsG T X.prog X.w X.K X.mg X.base C.fm n) {f : Nat} {x : Str} {cs : List CE} {es : List Expr} {p pos : Pos} (h1 : isGl sc x = true) (h2 : C.fm.contains (x, f) = true) (h3 : noStars es = true) (ha : PA X es (rEs T X.K n l cs))
    (hl : es = [] → cs = []) : PE X (.Call (.Name x p) es [] pos) (rE T X.K (n + 1) l (.call f cs)) := by
  obtain ⟨hg, hd⟩ := O.gl h1
  obtain ⟨a, fd, ps, F, G⟩ := Fs (x, f) (by simpa using h2)
  cases l with
  | zero =>
    refine ⟨fun pins s σ H Q I ⟨m, h, sg, q, R, S, e, P⟩ => ?_⟩
    simp only [evs, step, stepE] at e
    obtain ⟨p1, e1, e⟩ := bnd e
    cases e
  | succ l =>
    cases es with
    | nil =>
      have := hl rfl
      subst this
      refine PE.imp (pe_fg0 (G l) O.room O.gd hg F.mgx F.kp F.bd hd) fun σ H Q ⟨m, h, sg, q, R, S, e, P⟩ => ?_
      simp only [evs, step, stepE] at e
      obtain ⟨p1, e1, e⟩ := bnd e
      cases n with
      | zero => cases e1
      | succ n =>
        simp only [evs, step, Option.some.injEq] at e1
        subst e1
        exact docall_ok e R (show Rls X.K m H [] [] from rfl) P
    | cons e es =>
      refine PE.imp (pe_fg (G l) O.room O.gd hg F.mgx F.kp F.bd ha hd h3) fun σ H Q ⟨m, h, sg, q, R, S, e, P⟩ => ?_
      simp only [evs, step, stepE] at e
      obtain ⟨p1, e1, e⟩ := bnd e
      exact ⟨m, h, sg, p1, R, S, e1, fun m1 H1 vs x1 R1 r1 => docall_ok e R1 r1 (P.after R1 x1)⟩
/-! ### built-ins -/
theorem biV_kind (b : Bi) : (∃ id, biV b = .builtin id) ∨ ∃ t, biV b = .type t := by cases b <;> first | exact .inl ⟨_, rfl⟩ | exact .inr ⟨_, rfl⟩
theorem biN_mem (b : Bi) : biN b ∈ bnames := by cases b <;> decide +kernel
theorem biN_name (b : Bi) : biN b ≠ "__name__" := by cases b <;> decide +kernel
theorem pe_bi (O : Cok X C sc l) {b : Bi} {e : Expr} {es : List Expr} {t : TA} {p pos : Pos} (hg : Gl X (biN b)) (hd : (biN b == ("__debug__" : Str)) = false) (ha : PA X (e :: es) t) (hs : noStars (e :: es) = true) : PE X (.Call (.Name (biN b) p) (e :: es) [] pos) (tCB (rBi X.K b) t) := by
  unfold noStars at hs
  rw [List.all_cons, Bool.and_eq_true, Bool.not_eq_true'] at hs
  have hv := biV_boot b
  have hc := cr_bi O.calm O.gd O.u64 b
  rcases biV_kind b with ⟨id, hb⟩ | ⟨t, hb⟩
  · rw [hb] at hv hc
    exact pe_callB hc hg (O.md.bt _ (biN_mem b)) hv ha (biN_name b) hd (star_cons hs.1) (back_none (star_none hs.2))
  · rw [hb] at hv hc
    exact pe_callTy hc hg (O.md.bt _ (biN_mem b)) hv ha (biN_name b) hd (star_cons hs.1) (back_none (star_none hs.2))
theorem g_bi (O : Cok X C sc l) {b : Bi} {e : Expr} {es : List Expr} {cs : List CE} {p pos : Pos} (h1 : isGl sc (biN b) = true) (h3 : noStars (e :: es) = true) (ha : PA X (e :: es) (rEs T X.K n l cs)) : PE X (.Call (.Name (biN b) p) (e :: es) [] pos) (rE T X.K (n + 1) l (.bi b cs)) := by
  obtain ⟨hg, hd⟩ := O.gl h1
  refine PE.imp (pe_bi O hg hd ha h3) fun σ H Q ⟨m, h, sg, q, R, S, e, P⟩ => ?_
  simp only [evs, step, stepE] at e
  obtain ⟨p1, e1, e⟩ := bnd e
  exact ⟨m, h, sg, p1, R, S, e1, fun m1 H1 vs x1 R1 r1 => bi_ok e R1 r1 (P.after R1 x1)⟩
theorem tyN_mem (t : Ty) : tyN t ∈ bnames := by cases t <;> decide +kernel
theorem tyN_name (t : Ty) : tyN t ≠ "__name__" := by cases t <;> decide +kernel
theorem g_isi (O : Cok X C sc l) {t : Ty} {y : Expr} {a : CE} {p q pos : Pos} (h1 : isGl sc "isinstance" = true) (h2 : isGl sc (tyN t) = true) (hs : isStar y = false) (ha : PE X y (rE T X.K n l a)) :
    PE X (.Call (.Name "isinstance" p) [y, .Name (tyN t) q] [] pos) (rE T X.K (n + 1) l (.isi t a)) := by
  obtain ⟨hg, hd⟩ := O.gl h1
  obtain ⟨hg2, hd2⟩ := O.gl h2
  have ht : PE X (.Name (tyN t) q) (tC (.ty (tyS t))) := pe_bltn hg2 (O.md.bt _ (tyN_mem t)) (tyN_boot t) rfl (tyN_name t) hd2
  have hA : PA X [y, .Name (tyN t) q] _ := pa_cons ha (pa_cons ht pa_nil) (star_cons hs)
  refine PE.imp (pe_callB call_isi hg (O.md.bt "isinstance" (by decide +kernel)) (by decide +kernel) hA (by decide) hd (star_cons hs) rfl) fun σ H Q ⟨m, h, sg, q, R, S, e, P⟩ => ?_
  simp only [evs, step, stepE] at e
  obtain ⟨p1, e1, e⟩ := bnd e
  obtain ⟨k, e2, e⟩ := bnd e
  cases e
  exact ⟨m, h, sg, p1, R, S, e1, fun m1 H1 v x1 R1 r1 => isTy_ok e2 R1 r1 (P m1 H1 _ x1 R1 rfl)⟩
theorem rngs_V {K : Fg} {m : List Addr} {H : Hp} : ∀ (k : Nat) (a : Int), Rls K m H (rngs a k) ((List.range k).map fun i => V.int (a + (i : Nat)))
  | 0, _ => rfl
  | k + 1, a => by
    rw [List.range_succ_eq_map, List.map_cons, List.map_map]
    refine ⟨_, _, rfl, by show V.int (a + ((0 : Nat) : Int)) = V.int a; simp, ?_⟩
    have := rngs_V (K := K) (m := m) (H := H) k (a + 1)
    have e : (List.range k).map ((fun i => V.int (a + (i : Nat))) ∘ Nat.succ) = (List.range k).map fun i => V.int (a + 1 + (i : Nat)) := by
      refine List.map_congr_left fun i _ => ?_
      show V.int (a + ((i + 1 : Nat) : Int)) = _
      congr 1
      omega
    rw [e]
    exact this
theorem inR_ok {i : Int} (h : inR i = true) : -(2 ^ 62) ≤ i ∧ i < 2 ^ 62 := by
  have := Nat.le_of_ble_eq_true h
  omega
theorem g_lrg (O : Cok X C sc l) {w : Expr} {a : CE} {p q pos pos2 : Pos} (h1 : isGl sc "list" = true) (h2 : isGl sc "range" = true) (hs : isStar w = false) (ha : PE X w (rE T X.K n l a)) :
    PE X (.Call (.Name "list" p) [.Call (.Name "range" q) [w] [] pos2] [] pos) (rE T X.K (n + 1) l (.lrg a)) := by
  obtain ⟨hg, hd⟩ := O.gl h1
  obtain ⟨hg2, hd2⟩ := O.gl h2
  refine PE.imp (pe_listRg O.calm hg (O.md.bt "list" (by decide +kernel)) (prg_1 hg2 (O.md.bt "range" (by decide +kernel)) ha (star_cons hs))) fun σ H Q ⟨m, h, sg, q, R, S, e, P⟩ => ?_
  simp only [evs, step, stepE] at e
  obtain ⟨p1, e1, e⟩ := bnd e
  obtain ⟨i, e2, e⟩ := bnd e
  split at e
  · rename_i hc
    rw [Bool.and_eq_true, decide_eq_true_eq] at hc
    obtain ⟨d, h2⟩ := q
    obtain ⟨rfl, rfl⟩ := alloc_some e
    refine ⟨m, h, sg, p1, R, S, e1, fun m1 H1 v x1 R1 r1 => ?_⟩
    obtain ⟨d1, h1'⟩ := p1
    cases d1 <;> simp [asInt] at e2
    subst e2
    simp only [Rl] at r1
    obtain ⟨b1, b2⟩ := inR_ok hc.2
    refine ⟨_, r1, ⟨by decide, by decide, b1, b2, ?_⟩, fun a ha => ?_⟩
    · have : SL = 16777216 := rfl
      have : (2 : Nat) ^ 24 = 16777216 := by decide
      omega
    · refine (P.after R1 x1).newL R1 ha ?_
      unfold rgV
      rw [Int.sub_zero]
      exact rngs_V _ 0
  · cases e
/-! ### methods -/
theorem base_no {o : Expr} {x : Str} {env : Env} (h : isCall0 o = false) : attributeBase o x env (eval o env) = eval o env := by
  cases o with
  | Call f as ks p =>
    cases f with
    | Name y q =>
      cases as with
      | nil =>
        cases ks with
        | nil => simp [isCall0] at h
        | cons _ _ => rfl
      | cons _ _ => rfl
    | _ => rfl
  | _ => rfl
def tMet (X : Cx) (name : Str) (to : TE) (ta : TA) : TE := fun σ H Q => to σ H fun x H1 => ∃ (rt : Rt) (id : String), MF (rtS rt) name id ∧ TyM X.K H1 x rt ∧ ta σ H1 fun xs H2 => ∃ r, MtR X id r ∧ r x xs H2 Q
theorem few_ok {es : List Expr} {cpos : Pos} {env : Env} (h : noStars es = true) (hl : es.length < 20) : ((backTo cpos (starEach es env)).all (fun x => !x.1) && (backToKw cpos (keywordEach [] env)).all (fun x => x.1.isSome)
      && decide (es.length + ([] : List Keyword).length + (if ([] : List Keyword).isEmpty then 0 else 1) < 30)) = true := by
  have h1 : (backTo cpos (starEach es env)).all (fun x => !x.1) = true := by
    have := back_none (pos := cpos) (star_none (env := env) h)
    rw [List.all_eq_not_any_not]
    simpa using this
  have h2 : (backToKw cpos (keywordEach [] env)).all (fun x => x.1.isSome) = true := rfl
  rw [h1, h2]
  simp only [Bool.true_and, decide_eq_true_eq, List.length_nil, List.isEmpty_nil, if_true]
  omega
theorem pe_met {o : Expr} {name : Str} {apos cpos : Pos} {es : List Expr} {to : TE} {ta : TA} (hb : isCall0 o = false) (hs : noStars es = true) (hl : es.length < 20) (hline : (apos.endLine == cpos.line) = true) (ho : PE X o to) (ha : PA X es ta) (h0 : es = [] → ∀ σ H Q, ta σ H Q → Q [] H) :
    PE X (.Call (.Attribute o name apos) es [] cpos) (tMet X name to ta) := by
  refine ⟨fun pins s σ H Q I h => ?_⟩
  refine wpAny_Call_method_late (base_no hb) (few_ok hs hl) hline rfl (thn (ho.run pins s σ H _ I h) fun v s1 ⟨x, H1, I1, r1, rt, id, F, ty, q1⟩ => ?_)
  obtain ⟨h1, h2⟩ := ty.is I1 r1
  refine ⟨rtS rt, id, F.pa, F.slot, F.ty, h1, h2, ?_⟩
  have hA := ha.run cpos pins s1 σ H1 _ I1 q1
  cases es with
  | nil =>
    refine Calls.callWith_builtin (back_none (star_none hs)) ?_
    rw [show starEach ([] : List Expr) X.env = [] from rfl]
    refine PySem.evalArgs_none ?_
    obtain ⟨r, hm, q2⟩ := h0 rfl _ _ _ q1
    exact hm pins s1 σ H1 x [] v [] Q I1 r1 .nil q2
  | cons e es =>
    unfold noStars at hs
    have hs' := hs
    rw [List.all_cons, Bool.and_eq_true, Bool.not_eq_true'] at hs
    have hst := star_cons (env := X.env) (es := es) hs.1
    have hb2 := back_none (pos := cpos) (star_none (env := X.env) hs')
    rw [hst] at hA hb2 ⊢
    refine Calls.callWith_builtin hb2 (Calls.evalArgs_plain ?_)
    exact thn hA fun us s2 ⟨vs, H2, I2, r2, r, hm, q2⟩ => hm pins s2 σ H2 x vs v us Q I2 r1 r2 q2
theorem nil_rEs {cs : List CE} (h : cs = []) (σ : L2.St) (H : Hp) (Q : List V → Hp → Prop) (r : rEs T X.K n l cs σ H Q) : Q [] H := by
  subst h
  obtain ⟨m, h, sg, p, R, S, e, P⟩ := r
  cases n with
  | zero => cases e
  | succ n =>
    simp only [evs, step, Option.some.injEq] at e
    subst e
    exact P m H [] Ext.refl R rfl
theorem g_met (O : Cok X C sc l) {me : Me} {o : Expr} {c : CE} {cs : List CE} {es : List Expr} {apos cpos : Pos} (hb : isCall0 o = false) (hs : noStars es = true) (hl : es.length < 20) (hline : (apos.endLine == cpos.line) = true) (ho : PE X o (rE T X.K n l c))
    (ha : PA X es (rEs T X.K n l cs)) (h0 : es = [] → cs = []) : PE X (.Call (.Attribute o (meN me) apos) es [] cpos) (rE T X.K (n + 1) l (.met me c cs)) := by
  refine PE.imp (pe_met hb hs hl hline ho ha fun h => nil_rEs (h0 h)) fun σ H Q ⟨m, h, sg, q, R, S, e, P⟩ => ?_
  simp only [evs, step, stepE] at e
  obtain ⟨p1, e1, e⟩ := bnd e
  obtain ⟨rt, e2, e⟩ := bnd e
  obtain ⟨p2, e3, e⟩ := bnd e
  refine ⟨m, h, sg, p1, R, S, e1, fun m1 H1 v x1 R1 r1 => ?_⟩
  have hm : meOk rt me = true := by
    have : ∀ {rt : Rt} {as : List D} {o d : D} {h h' : Hh}, met rt me o as h = some (d, h') → meOk rt me = true := by
      intro rt as o d h h' e
      cases rt <;> cases me <;> first
        | rfl
        | (exfalso; cases o <;> simp [met, metL, metD, metT] at e <;> (try split at e) <;> simp [met, metL, metD, metT] at e)
        | (exfalso; cases o <;> simp [met, metL, metD, metT] at e)
    exact this (d := q.1) (h' := q.2) e
  refine ⟨rt, meI rt me, mf_of hm, rcv_ok e2 R1 r1, m1, p1.2, sg, p2, R1, x1.sr R S, e3, fun m2 H2 vs x2 R2 r2 => ?_⟩
  exact ⟨rMe X.K rt me, mt_me O.u1 hm, (met_ok e R2 (x2.rl R1 r1) r2 ((P.after R1 x1).after R2 x2)).2⟩
/-! ### places -/
theorem plain_ix {b : Expr} (h : isSlice b = false) : PlainIx b := by
  intro o i
  cases b <;> first | rfl | simp [isSlice] at h
theorem g_sub (O : Cok X C sc l) {a b : CE} {x y : Expr} {pos : Pos} (hs : isSlice y = false) (ha : PE X x (rE T X.K n l a)) (hb : PE X y (rE T X.K n l b)) : PE X (.Subscript x y pos) (rE T X.K (n + 1) l (.sub a b)) := by
  refine PE.imp (pe_ix (ix_any O.u1) ha hb (plain_ix hs)) fun σ H Q ⟨m, h, sg, q, R, S, e, P⟩ => ?_
  simp only [evs, step, stepE] at e
  obtain ⟨p1, e1, e⟩ := bnd e
  obtain ⟨p2, e2, e⟩ := bnd e
  obtain ⟨d, e3, e⟩ := bnd e
  cases e
  refine ⟨m, h, sg, p1, R, S, e1, fun m1 H1 v x1 R1 r1 => ⟨m1, p1.2, sg, p2, R1, x1.sr R S, e2, fun m2 H2 u x2 R2 r2 => ?_⟩⟩
  exact sub_ok e3 R2 (x2.rl R1 r1) r2 ((P.after R1 x1).after R2 x2)
theorem asInt_rl {K : Fg} {m : List Addr} {H : Hp} {d : D} {v : V} {i : Int} (e : asInt d = some i) (r : Rl K m H d v) : v = .int i := by
  cases d <;> simp [asInt] at e
  subst e
  exact r
theorem g_slc {a : CE} {x : Expr} {lo hi : Option Expr} {clo chi : Option CE} {p pos : Pos} (ha : PE X x (rE T X.K n l a)) (hl : ∀ e, lo = some e → ∃ c, clo = some c ∧ PE X e (rE T X.K n l c)) (hl0 : lo = none → clo = none)
    (hh : ∀ e, hi = some e → ∃ c, chi = some c ∧ PE X e (rE T X.K n l c)) (hh0 : hi = none → chi = none) : PE X (.Subscript x (.Slice lo hi none p) pos) (rE T X.K (n + 1) l (.slc a clo chi)) := by
  cases lo with
  | none =>
    cases hl0 rfl
    cases hi with
    | none =>
      cases hh0 rfl
      refine PE.imp (pe_slice sl_any ha po_none po_none) fun σ H Q ⟨m, h, sg, q, R, S, e, P⟩ => ?_
      simp only [evs, step, stepE] at e
      obtain ⟨p1, e1, e⟩ := bnd e
      exact ⟨m, h, sg, p1, R, S, e1, fun m1 H1 v x1 R1 r1 => slice_ok e R1 r1 (P.after R1 x1)⟩
    | some y =>
      obtain ⟨c, rfl, hc⟩ := hh y rfl
      refine PE.imp (pe_slice sl_any ha po_none (po_some hc)) fun σ H Q ⟨m, h, sg, q, R, S, e, P⟩ => ?_
      simp only [evs, step, stepE] at e
      obtain ⟨p1, e1, e⟩ := bnd e
      obtain ⟨p2, e2, e⟩ := bnd e
      obtain ⟨i, e3, e⟩ := bnd e
      exact ⟨m, h, sg, p1, R, S, e1, fun m1 H1 v x1 R1 r1 => ⟨m1, p1.2, sg, p2, R1, x1.sr R S, e2, fun m2 H2 u x2 R2 r2 => ⟨i, asInt_rl e3 r2, slice_ok e R2 (x2.rl R1 r1) ((P.after R1 x1).after R2 x2)⟩⟩⟩
  | some z =>
    obtain ⟨c, rfl, hc⟩ := hl z rfl
    cases hi with
    | none =>
      cases hh0 rfl
      refine PE.imp (pe_slice sl_any ha (po_some hc) po_none) fun σ H Q ⟨m, h, sg, q, R, S, e, P⟩ => ?_
      simp only [evs, step, stepE] at e
      obtain ⟨p1, e1, e⟩ := bnd e
      obtain ⟨p2, e2, e⟩ := bnd e
      obtain ⟨i, e3, e⟩ := bnd e
      exact ⟨m, h, sg, p1, R, S, e1, fun m1 H1 v x1 R1 r1 => ⟨m1, p1.2, sg, p2, R1, x1.sr R S, e2, fun m2 H2 u x2 R2 r2 => ⟨i, asInt_rl e3 r2, slice_ok e R2 (x2.rl R1 r1) ((P.after R1 x1).after R2 x2)⟩⟩⟩
    | some y =>
      obtain ⟨c2, rfl, hc2⟩ := hh y rfl
      refine PE.imp (pe_slice sl_any ha (po_some hc) (po_some hc2)) fun σ H Q ⟨m, h, sg, q, R, S, e, P⟩ => ?_
      simp only [evs, step, stepE] at e
      obtain ⟨p1, e1, e⟩ := bnd e
      obtain ⟨p2, e2, e⟩ := bnd e
      obtain ⟨i, e3, e⟩ := bnd e
      obtain ⟨p3, e4, e⟩ := bnd e
      obtain ⟨j, e5, e⟩ := bnd e
      exact ⟨m, h, sg, p1, R, S, e1, fun m1 H1 v x1 R1 r1 => ⟨m1, p1.2, sg, p2, R1, x1.sr R S, e2, fun m2 H2 u x2 R2 r2 => ⟨i, asInt_rl e3 r2, m2, p2.2, sg, p3, R2, x2.sr R1 (x1.sr R S), e4, fun m3 H3 w x3 R3 r3 =>
        ⟨j, asInt_rl e5 r3, slice_ok e R3 (x3.rl R2 (x2.rl R1 r1)) (((P.after R1 x1).after R2 x2).after R3 x3)⟩⟩⟩⟩
theorem g_rev {a : CE} {x y : Expr} {pos : Pos} (hy : isM1 y = true) (ha : PE X x (rE T X.K n l a)) : PE X (.Subscript x y pos) (rE T X.K (n + 1) l (.rev a)) := by
  unfold isM1 at hy
  split at hy
  · refine PE.imp (pe_revA ha) fun σ H Q ⟨m, h, sg, q, R, S, e, P⟩ => ?_
    simp only [evs, step, stepE] at e
    obtain ⟨p1, e1, e⟩ := bnd e
    refine ⟨m, h, sg, p1, R, S, e1, fun m1 H1 v x1 R1 r1 => ?_⟩
    obtain ⟨d1, h1⟩ := p1
    cases d1 with
    | ref k =>
      obtain ⟨xs, e2, e⟩ := bnd e
      obtain ⟨a, vs, rfl, _, hq, rs⟩ := getL_ok R1 e2 r1
      obtain ⟨d, h2⟩ := q
      obtain ⟨rfl, rfl⟩ := alloc_some e
      exact .inl ⟨a, vs, rfl, hq, fun p hp => (P.after R1 x1).newL R1 hp rs.reverse⟩
    | tup xs =>
      cases e
      simp only [Rl] at r1
      obtain ⟨a, vs, rfl, hq, rs⟩ := r1
      exact .inr ⟨a, vs, rfl, hq.sq, (P.after R1 x1).newT R1 rs.reverse⟩
    | _ => cases e
  · cases hy
theorem g_dnk {pos : Pos} : PE X (.Dict [] [] pos) (rE T X.K (n + 1) l .dnk) := by
  refine PE.imp pe_dnewK fun σ H Q ⟨m, h, sg, q, R, S, e, P⟩ => ?_
  simp only [evs, step, stepE] at e
  obtain ⟨d, h2⟩ := q
  obtain ⟨rfl, rfl⟩ := alloc_some e
  exact fun p hp => P.new R hp ⟨[], upd_same, rfl⟩
theorem g_dnt {pos : Pos} : PE X (.Dict [] [] pos) (rE T X.K (n + 1) l .dnt) := by
  refine PE.imp pe_newN fun σ H Q ⟨m, h, sg, q, R, S, e, P⟩ => ?_
  simp only [evs, step, stepE] at e
  obtain ⟨d, h2⟩ := q
  obtain ⟨rfl, rfl⟩ := alloc_some e
  exact fun p hp => P.new R hp ⟨[], upd_same, rfl⟩
end
end Ez

/-! E4h: displays of dicts, iterables -/
namespace Ez
open PySem PySem.Spec PyProof.Rows L2
section
variable {K : Fg} {m m' : List Addr} {h : Hh} {H : Hp}
theorem Hr.hid (R : Hr K m h H) {p : Addr} {u : HO} (hp : H p = none) : Hr K m h (upd H p u) ∧ Ext m m H (upd H p u) ∧ p ∉ m := by
  have x : Ext m m H (upd H p u) := ⟨⟨[], by simp, by simp⟩, fun a o e _ => by rw [upd_ne (ne_of_none e hp)]; exact e⟩
  refine ⟨⟨R.len, R.nd, fun n o a e1 e2 => ?_⟩, x, fun z => ?_⟩
  · have r := R.ob n o a e1 e2
    have ne : a ≠ p := by
      obtain ⟨u, e, _⟩ := r.smt
      exact ne_of_none e hp
    exact r.mono (fun _ _ q => q) (x.tup R) (upd_ne ne)
  · obtain ⟨w, e, _⟩ := R.mem z
    rw [hp] at e
    cases e
theorem Hr.adopt (R : Hr K m h H) {p : Addr} {o : O} (hpm : p ∉ m) (hu : RlO K (m ++ [p]) H p o) : Hr K (m ++ [p]) (h ++ [o]) H := by
  refine ⟨by simp [R.len], ?_, fun n ob a e1 e2 => ?_⟩
  · rw [List.nodup_append]
    refine ⟨R.nd, by simp, fun a ha b hb => ?_⟩
    have e : b = p := by simpa using hb
    subst e
    rintro rfl
    exact hpm ha
  · by_cases hn : n < m.length
    · rw [List.getElem?_append_left hn] at e2
      rw [List.getElem?_append_left (by rw [← R.len]; exact hn)] at e1
      refine (R.ob n ob a e1 e2).mono (fun k b q => ?_) ⟨fun _ _ q => q, fun _ _ q => q⟩ rfl
      rw [List.getElem?_append_left (List.getElem?_eq_some_iff.mp q).1]
      exact q
    · rw [List.getElem?_append_right (by omega)] at e2
      rw [List.getElem?_append_right (by rw [← R.len]; omega)] at e1
      rw [← R.len] at e1
      cases q : n - m.length with
      | zero =>
        rw [q] at e1 e2
        simp at e1 e2
        subst e1
        subst e2
        exact hu
      | succ j =>
        rw [q] at e1
        simp at e1
/-- what is no tuple may change: all tuples stay -/
theorem kp_upd {H2 : Hp} {p : Addr} {u u2 : HO} (hp2 : H2 p = some u) (nt : (∀ vs, u ≠ .tup vs) ∧ ∀ ob vs, u ≠ .frz ob (.tup vs)) : Kp H2 (upd H2 p u2) := by
  refine ⟨fun a vs ⟨ob, q, hd⟩ => ⟨ob, ?_, hd⟩, fun a vs q => ?_⟩
  · rw [upd_ne (fun z => ?_)]
    · exact q
    · rw [z, hp2] at q
      cases q
      exact nt.2 ob vs rfl
  · rw [upd_ne (fun z => ?_)]
    · exact q
    · rw [z, hp2] at q
      cases q
      exact nt.1 vs rfl
/-- an object that stood hidden is ours at last -/
theorem Post.shown {d : O} {u u2 : HO} {p : Addr} {m2 : List Addr} {h2 : Hh} {H2 : Hp} {Q : VK} (P : Post K m (h2 ++ [d]) (.ref h2.length) H Q) (R : Hr K m h H) (hp : H p = none) (x : Ext m m2 (upd H p u) H2) (R2 : Hr K m2 h2 H2)
    (hu : RlO K (m2 ++ [p]) (upd H2 p u2) p d) (nt : (∀ vs, u ≠ .tup vs) ∧ ∀ ob vs, u ≠ .frz ob (.tup vs)) : Q (.ref p) (upd H2 p u2) := by
  obtain ⟨R1, x1, hpm⟩ := R.hid (u := u) hp
  obtain ⟨e, he, hf⟩ := x.pre
  have hpm2 : p ∉ m2 := fun z => by
    rw [he] at z
    rcases List.mem_append.mp z with z | z
    · exact hpm z
    · have := hf p z
      rw [upd_same] at this
      cases this
  have hp2 : H2 p = some u := x.out p u upd_same hpm
  have y : Ext m (m2 ++ [p]) H (upd H2 p u2) := by
    refine ⟨⟨e ++ [p], by rw [he]; simp, fun a ha => ?_⟩, fun a o q hn => ?_⟩
    · rcases List.mem_append.mp ha with ha | ha
      · have hne : a ≠ p := fun z => hpm2 (by rw [← z, he]; exact List.mem_append_right _ ha)
        have := hf a ha
        rwa [upd_ne hne] at this
      · have : a = p := by simpa using ha
        rw [this]; exact hp
    · have hne : a ≠ p := ne_of_none q hp
      rw [upd_ne hne]
      exact x.out a o (by rw [upd_ne hne]; exact q) hn
  have ht : Kp H2 (upd H2 p u2) := kp_upd hp2 nt
  have R3 : Hr K m2 h2 (upd H2 p u2) := by
    refine ⟨R2.len, R2.nd, fun n o a e1 e2 => (R2.ob n o a e1 e2).mono (fun _ _ q => q) ht ?_⟩
    exact upd_ne fun z => hpm2 (by rw [← z]; exact List.mem_of_getElem? e2)
  exact P _ _ _ y (R3.adopt hpm2 hu) ⟨p, rfl, by rw [← R2.len]; simp⟩
end
/-! ### {text: value, ..} -/
def kQ (s : List Nat) : Key := .inr ⟨s.toArray⟩
theorem kQ_inj {a b : List Nat} (h : kQ a = kQ b) : a = b := by
  simp only [kQ, Sum.inr.injEq] at h
  have := congrArg (fun x : Str => x.cps.toList) h
  simpa using this
def mkP (T : Tab) (K : Fg) (l : Nat) : Nat → List (List Nat) → List CE → List (TE × TE)
  | n + 1, k :: ks, c :: cs => (tC (kV (kQ k)), rE T K n l c) :: mkP T K l n ks cs
  | _, _, _ => []
section
variable {T : Tab} {X : Cx} {C : Ck} {sc : Scope} {l : Nat}
theorem pairs_ok {K : Fg} : ∀ (n : Nat) (ks : List (List Nat)) (cs : List CE) (m : List Addr) (h : Hh) (sg : Sg) (σ : L2.St) (H : Hp) (p : List D × Hh) (Q : List (V × V) → Hp → Prop), ks.length = cs.length → Hr K m h H → Sr K m H sg σ → evs T n .es (l, cs, sg, h) = some p →
    PostL K m p.2 p.1 H (fun vs H2 => Q (((ks.map fun k => kV (kQ k))).zip vs) H2) → tPairs (mkP T K l n ks cs) σ H Q
  | 0, _, _, _, _, _, _, _, _, _, _, _, _, e, _ => by cases e
  | n + 1, ks, cs, m, h, sg, σ, H, p, Q, hl, R, S, e, P => by
    cases cs with
    | nil =>
      cases ks with
      | nil =>
        simp only [evs, step, Option.some.injEq] at e
        subst e
        exact P m H [] Ext.refl R rfl
      | cons k ks => simp at hl
    | cons c cs =>
      cases ks with
      | nil => simp at hl
      | cons k ks =>
        simp only [evs, step] at e
        obtain ⟨p1, e1, e⟩ := bnd e
        obtain ⟨p2, e2, e⟩ := bnd e
        cases e
        show (rE T K n l c) σ H _
        refine ⟨m, h, sg, p1, R, S, e1, fun m1 H1 v x1 R1 r1 => ?_⟩
        refine pairs_ok n ks cs m1 p1.2 sg σ H1 p2 _ (by simpa using hl) R1 (x1.sr R S) e2 fun m2 H2 vs x2 R2 r2 => ?_
        exact P m2 H2 (v :: vs) (x1.trans R1 x2) R2 ⟨v, vs, rfl, x2.rl R1 r1, r2⟩
theorem valV_none {kvs : List (Key × V)} {k : Key} (h : k ∉ kvs.map (·.1)) : valV kvs k = none := by
  induction kvs with
  | nil => rfl
  | cons p r ih =>
    simp only [List.map_cons, List.mem_cons, not_or] at h
    have := ih h.2
    unfold valV at this ⊢
    rw [List.find?_cons]
    have hne : decide (p.1 = k) = false := by
      rw [decide_eq_false_iff_not]
      exact fun z => h.1 z.symm
    rw [hne]
    exact this
theorem mergeK_nodup : ∀ (more acc : List (Key × V)), ((acc ++ more).map (·.1)).Nodup → mergeK acc more = acc ++ more
  | [], acc, _ => by simp [mergeK]
  | p :: r, acc, h => by
    have h1 : p.1 ∉ acc.map (·.1) := by
      rw [List.map_append, List.map_cons, List.nodup_append] at h
      exact fun z => h.2.2 _ z _ List.mem_cons_self rfl
    show mergeK (putK acc p.1 p.2) r = _
    rw [putK_new _ (valV_none h1)]
    have := mergeK_nodup r (acc ++ [p]) (by simpa using h)
    rw [this]
    simp
theorem rlK_zip {K : Fg} {m : List Addr} {H : Hp} : ∀ (ks : List (List Nat)) (ds : List D) (vs : List V), ks.length = ds.length → Rls K m H ds vs → RlK K m H ((ks.map D.str).zip ds) ((ks.map kQ).zip vs)
  | [], [], vs, _, r => rfl
  | [], d :: ds, _, e, _ => by simp at e
  | k :: ks, [], _, e, _ => by simp at e
  | k :: ks, d :: ds, vs, e, r => by
    simp only [Rls] at r
    obtain ⟨v, t, rfl, r1, r2⟩ := r
    exact ⟨kQ k, v, _, rfl, by simp [kQ, kD], r1, rlK_zip ks ds t (by simpa using e) r2⟩
theorem zip_kV : ∀ (ks : List (List Nat)) (vs : List V), (ks.map fun k => kV (kQ k)).zip vs = ((ks.map kQ).zip vs).map fun kv => (kV kv.1, kv.2)
  | [], _ => rfl
  | _ :: _, [] => rfl
  | k :: ks, v :: vs => by
    simp only [List.map_cons, List.zip_cons_cons]
    rw [zip_kV ks vs]
theorem g_dsk {n : Nat} {ks : List (List Nat)} {cs : List CE} {kx : List (Option Expr)} {vx : List Expr} {pos : Pos} (hp : PPs X pos kx vx (mkP T X.K l n ks cs)) (hall : kx.all (·.isSome) = true) (hl : kx.length = vx.length) (h0 : kx ≠ []) (h15 : kx.length ≤ 15)
    (hk : ks.length = cs.length) (nd : ks.Nodup) : PE X (.Dict kx vx pos) (rE T X.K (n + 1) l (.dsk ks cs)) := by
  refine PE.imp (pe_disp hp hall hl h0 h15) fun σ H Q ⟨m, h, sg, q, R, S, e, P⟩ p hp => ?_
  simp only [evs, step, stepE] at e
  obtain ⟨p1, e1, e⟩ := bnd e
  split at e
  · rename_i hc
    rw [Bool.and_eq_true, decide_eq_true_eq, decide_eq_true_eq] at hc
    obtain ⟨d, h2⟩ := q
    obtain ⟨rfl, rfl⟩ := alloc_some e
    obtain ⟨R1, x1, hpm⟩ := R.hid (u := .dK []) hp
    refine pairs_ok n ks cs m h sg σ _ p1 _ hk R1 (x1.sr R S) e1 fun m2 H2 vs x2 R2 r2 => ?_
    have hlen : vs.length = ks.length := by rw [r2.length, hc.2]
    refine ⟨x2.out p _ upd_same hpm, (ks.map kQ).zip vs, ?_, ?_, ?_⟩
    · exact zip_kV ks vs
    · rw [List.length_zip, List.length_map]
      omega
    · rw [mergeK_nodup _ [] ?_]
      · refine P.shown R hp x2 R2 ?_ ⟨(fun vs z => by cases z), (fun ob vs z => by cases z)⟩
        refine ⟨_, upd_same, ?_⟩
        refine RlK.mono (fun k b q => ?_) (kp_upd (x2.out p _ upd_same hpm) ⟨(fun vs z => by cases z), (fun ob vs z => by cases z)⟩) _ _ (rlK_zip ks p1.1 vs hc.2.symm r2)
        · rw [List.getElem?_append_left (List.getElem?_eq_some_iff.mp q).1]
          exact q
      · rw [List.nil_append, List.map_fst_zip (by rw [List.length_map]; omega)]
        exact List.Pairwise.map _ (fun a b h z => h (kQ_inj z)) nd
  · cases e
theorem g_dst1 (O : Cok X C sc l) {n : Nat} {k v : CE} {x y : Expr} {pos : Pos} (hk : PE X x (rE T X.K n l k)) (hv : PE X y (rE T X.K n l v)) : PE X (.Dict [some x] [y] pos) (rE T X.K (n + 1) l (.dst1 k v)) := by
  refine PE.imp (pe_oneN O.u1 hk hv) fun σ H Q ⟨m, h, sg, q, R, S, e, P⟩ p hp => ?_
  simp only [evs, step, stepE] at e
  obtain ⟨p1, e1, e⟩ := bnd e
  obtain ⟨p2, e2, e⟩ := bnd e
  split at e
  · rename_i hc
    obtain ⟨d, h2⟩ := q
    obtain ⟨rfl, rfl⟩ := alloc_some e
    obtain ⟨R1, x1, hpm⟩ := R.hid (u := dN p []) hp
    refine ⟨m, h, sg, p1, R1, x1.sr R S, e1, fun m1 H1 v1 y1 S1 r1 => ⟨m1, p1.2, sg, p2, S1, y1.sr R1 (x1.sr R S), e2, fun m2 H2 v2 y2 S2 r2 => ?_⟩⟩
    have r1' := y2.rl S1 r1
    obtain ⟨q, b, rfl, eq, kq⟩ := keyT_ok hc r1'
    have z := y1.trans S1 y2
    have nt : (∀ vs, dN p [] ≠ .tup vs) ∧ ∀ ob vs, dN p [] ≠ .frz ob (.tup vs) := ⟨(fun vs z => by cases z), (fun ob vs z => by cases z)⟩
    refine ⟨z.out p _ upd_same hpm, q, b, rfl, kq, P.shown R hp z S2 ⟨_, upd_same, ?_⟩ nt⟩
    refine RlT.mono (fun j c g => ?_) (kp_upd (z.out p _ upd_same hpm) nt) _ _ (show RlT X.K m2 H2 [(p1.1, p2.1)] [(q, b, v2)] from ⟨q, b, v2, [], rfl, eq, kq.2.1, kq.2.2, r1', r2, rfl⟩)
    rw [List.getElem?_append_left (List.getElem?_eq_some_iff.mp g).1]
    exact g
  · cases e
end
end Ez

/-! E4i: iterables, comprehensions -/
namespace Ez
open PySem PySem.Spec PyProof.Rows L2
section
variable {T : Tab} {X : Cx} {C : Ck} {sc : Scope} {n l : Nat} {tg : Expr}
theorem ci_ex {a : CE} {e : Expr} (ha : PE X e (rE T X.K n l a)) : PI X tg e (rCi T X.K (n + 1) l (.ex a)) := by
  refine PI.imp (pi_any ha) fun σ H Rr ⟨m, h, sg, q, R, S, e, P⟩ => ?_
  simp only [evs, step] at e
  obtain ⟨p1, e1, e⟩ := bnd e
  obtain ⟨s, e2, e⟩ := bnd e
  cases e
  refine ⟨m, h, sg, p1, R, S, e1, fun m1 H1 v x1 R1 r1 => ?_⟩
  have P1 := P.after R1 x1
  obtain ⟨d1, h1⟩ := p1
  cases d1 with
  | tup xs =>
    simp only [srcOf, Option.some.injEq] at e2
    subst e2
    simp only [Rl] at r1
    obtain ⟨a, vs, rfl, q, rs⟩ := r1
    exact .inr (.inl ⟨a, rfl, ⟨vs, q.sq⟩, P1 m1 H1 _ Ext.refl R1 (.tup q rs)⟩)
  | str s =>
    simp only [srcOf, Option.some.injEq] at e2
    subst e2
    simp only [Rl] at r1
    subst r1
    exact .inr (.inr ⟨_, rfl, P1 m1 H1 _ Ext.refl R1 (.str rfl)⟩)
  | ref k =>
    simp only [srcOf] at e2
    obtain ⟨xs, e3, e2⟩ := bnd e2
    cases e2
    obtain ⟨a, vs, rfl, ha, hq, rs⟩ := getL_ok R1 e3 r1
    exact .inl ⟨a, rfl, ⟨vs, hq⟩, P1 m1 H1 _ Ext.refl R1 (.dy ha)⟩
  | non => cases e2
  | bl b => cases e2
  | int i => cases e2
  | rp p => cases e2
  | ptp p => cases e2
theorem ci_rg1 (O : Cok X C sc l) {a : CE} {w : Expr} {p pos : Pos} (h1 : isGl sc "range" = true) (hs : isStar w = false) (ha : PE X w (rE T X.K n l a)) : PI X tg (.Call (.Name "range" p) [w] [] pos) (rCi T X.K (n + 1) l (.rg1 a)) := by
  obtain ⟨hg, hd⟩ := O.gl h1
  refine PI.imp (pi_range1 hg (O.md.bt "range" (by decide +kernel)) (pa_cons ha pa_nil (star_cons hs)) (star_cons hs)) fun σ H Rr ⟨m, h, sg, q, R, S, e, P⟩ => ?_
  simp only [evs, step] at e
  obtain ⟨p1, e1, e⟩ := bnd e
  obtain ⟨i, e2, e⟩ := bnd e
  split at e
  · rename_i hc
    cases e
    refine ⟨m, h, sg, p1, R, S, e1, fun m1 H1 v x1 R1 r1 => ?_⟩
    have := asInt_rl e2 r1
    subst this
    obtain ⟨b1, b2⟩ := inR_ok hc
    exact ⟨i, rfl, b1, b2, (P.after R1 x1) m1 H1 _ Ext.refl R1 (.rng (by omega) (by simp))⟩
  · cases e
theorem star2 {a b : Expr} {env : Env} (h1 : isStar a = false) (h2 : isStar b = false) : starEach [a, b] env = [(false, eval a env), (false, eval b env)] := by rw [star_cons h1, star_cons h2]; rfl
theorem star1 {b : Expr} {env : Env} (h2 : isStar b = false) : starEach [b] env = [(false, eval b env)] := by rw [star_cons h2]; rfl
theorem ci_rg2 (O : Cok X C sc l) {a b : CE} {w z : Expr} {p pos : Pos} (h1 : isGl sc "range" = true) (hs : isStar w = false) (hs2 : isStar z = false) (ha : PE X w (rE T X.K n l a)) (hb : PE X z (rE T X.K n l b)) :
    PI X tg (.Call (.Name "range" p) [w, z] [] pos) (rCi T X.K (n + 1) l (.rg2 a b)) := by
  obtain ⟨hg, hd⟩ := O.gl h1
  refine PI.imp (pi_range2 hg (O.md.bt "range" (by decide +kernel)) (pa_cons ha (pa_cons hb pa_nil (star_cons hs2)) (star_cons hs)) (star2 hs hs2) (star1 hs2)) fun σ H Rr ⟨m, h, sg, q, R, S, e, P⟩ => ?_
  simp only [evs, step] at e
  obtain ⟨p1, e1, e⟩ := bnd e
  obtain ⟨p2, e2, e⟩ := bnd e
  obtain ⟨i, e3, e⟩ := bnd e
  obtain ⟨j, e4, e⟩ := bnd e
  split at e
  · rename_i hc
    cases e
    rw [Bool.and_eq_true] at hc
    refine ⟨m, h, sg, p1, R, S, e1, fun m1 H1 v x1 R1 r1 => ⟨m1, p1.2, sg, p2, R1, x1.sr R S, e2, fun m2 H2 u x2 R2 r2 => ?_⟩⟩
    have := asInt_rl e3 r1
    subst this
    have := asInt_rl e4 r2
    subst this
    obtain ⟨b1, b2⟩ := inR_ok hc.1
    obtain ⟨b3, b4⟩ := inR_ok hc.2
    exact ⟨i, j, rfl, ⟨b1, b2, b3, b4⟩, ((P.after R1 x1).after R2 x2) m2 H2 _ Ext.refl R2 (.rng (by omega) (by simp))⟩
  · cases e
theorem ci_rg3 (O : Cok X C sc l) {a b c : CE} {w z y : Expr} {p pos : Pos} (h1 : isGl sc "range" = true) (hs : isStar w = false) (hs2 : isStar z = false) (hs3 : isStar y = false) (ha : PE X w (rE T X.K n l a)) (hb : PE X z (rE T X.K n l b)) (hcc : PE X y (rE T X.K n l c)) :
    PI X tg (.Call (.Name "range" p) [w, z, y] [] pos) (rCi T X.K (n + 1) l (.rg3 a b c)) := by
  obtain ⟨hg, hd⟩ := O.gl h1
  refine PI.imp (pi_range3 hg (O.md.bt "range" (by decide +kernel)) (pa_cons ha (pa_cons hb (pa_cons hcc pa_nil (star_cons hs3)) (star_cons hs2)) (star_cons hs)) (star_cons hs) (by rw [star2 hs2 hs3]; rfl)) fun σ H Rr ⟨m, h, sg, q, R, S, e, P⟩ => ?_
  simp only [evs, step] at e
  obtain ⟨p1, e1, e⟩ := bnd e
  obtain ⟨p2, e2, e⟩ := bnd e
  obtain ⟨p3, e3, e⟩ := bnd e
  obtain ⟨i, f1, e⟩ := bnd e
  obtain ⟨j, f2, e⟩ := bnd e
  obtain ⟨k, f3, e⟩ := bnd e
  split at e
  · rename_i hc
    cases e
    simp only [Bool.and_eq_true, decide_eq_true_eq] at hc
    obtain ⟨⟨c1, c2⟩, rfl⟩ := hc
    refine ⟨m, h, sg, p1, R, S, e1, fun m1 H1 v x1 R1 r1 => ⟨m1, p1.2, sg, p2, R1, x1.sr R S, e2, fun m2 H2 u x2 R2 r2 => ⟨m2, p2.2, sg, p3, R2, x2.sr R1 (x1.sr R S), e3, fun m3 H3 t x3 R3 r3 => ?_⟩⟩⟩
    have := asInt_rl f1 r1
    subst this
    have := asInt_rl f2 r2
    subst this
    have := asInt_rl f3 r3
    subst this
    obtain ⟨b1, b2⟩ := inR_ok c1
    obtain ⟨b3, b4⟩ := inR_ok c2
    exact ⟨i, j, -1, _, rfl, RgC.neg b1 b2 b3 b4, (((P.after R1 x1).after R2 x2).after R3 x3) m3 H3 _ Ext.refl R3 (.rgc (by omega) (by simp))⟩
  · cases e
theorem isTupE_eq {e : Expr} (h : isTupE e = true) : ∃ es k p, e = .Tuple es k p := by
  cases e <;> first | exact ⟨_, _, _, rfl⟩ | simp [isTupE] at h
theorem ci_en (O : Cok X C sc l) {a : CE} {w : Expr} {p pos : Pos} (ht : isTupE tg = true) (h1 : isGl sc "enumerate" = true) (hs : isStar w = false) (ha : PE X w (rE T X.K n l a)) : PI X tg (.Call (.Name "enumerate" p) [w] [] pos) (rCi T X.K (n + 1) l (.en a)) := by
  obtain ⟨hg, hd⟩ := O.gl h1
  obtain ⟨es, kk, tp, rfl⟩ := isTupE_eq ht
  refine PI.imp (pi_enumA hg (O.md.bt "enumerate" (by decide +kernel)) (pa_cons ha pa_nil (star_cons hs)) (star1 hs)) fun σ H Rr ⟨m, h, sg, q, R, S, e, P⟩ => ?_
  simp only [evs, step] at e
  obtain ⟨p1, e1, e⟩ := bnd e
  obtain ⟨s, e2, e⟩ := bnd e
  cases e
  refine ⟨m, h, sg, p1, R, S, e1, fun m1 H1 v x1 R1 r1 => ?_⟩
  have P1 := P.after R1 x1
  obtain ⟨d1, h1⟩ := p1
  cases d1 with
  | tup xs =>
    simp only [srcEn, Option.some.injEq] at e2
    subst e2
    simp only [Rl] at r1
    obtain ⟨a, vs, rfl, q, rs⟩ := r1
    exact ⟨a, vs, rfl, .inr ⟨q.sq, P1 m1 H1 _ Ext.refl R1 (.enT q rs)⟩⟩
  | ref k =>
    simp only [srcEn] at e2
    obtain ⟨xs, e3, e2⟩ := bnd e2
    cases e2
    obtain ⟨a, vs, rfl, ha, hq, rs⟩ := getL_ok R1 e3 r1
    exact ⟨a, vs, rfl, .inl ⟨hq, P1 m1 H1 _ Ext.refl R1 (.en ha)⟩⟩
  | str s => cases e2
  | non => cases e2
  | bl b => cases e2
  | int i => cases e2
  | rp p => cases e2
  | ptp p => cases e2
theorem ci_zp (O : Cok X C sc l) {a b : CE} {w z : Expr} {p pos : Pos} (ht : isTupE tg = true) (h1 : isGl sc "zip" = true) (hs : isStar w = false) (hs2 : isStar z = false) (ha : PE X w (rE T X.K n l a)) (hb : PE X z (rE T X.K n l b)) :
    PI X tg (.Call (.Name "zip" p) [w, z] [] pos) (rCi T X.K (n + 1) l (.zp a b)) := by
  obtain ⟨hg, hd⟩ := O.gl h1
  obtain ⟨es, kk, tp, rfl⟩ := isTupE_eq ht
  refine PI.imp (RZ.pi_zipA hg (O.md.bt "zip" (by decide +kernel)) (pa_cons ha (pa_cons hb pa_nil (star_cons hs2)) (star_cons hs)) (star_cons hs) (by rw [star1 hs2]; rfl)) fun σ H Rr ⟨m, h, sg, q, R, S, e, P⟩ => ?_
  simp only [evs, step] at e
  obtain ⟨p1, e1, e⟩ := bnd e
  obtain ⟨p2, e2, e⟩ := bnd e
  obtain ⟨s, e3, e⟩ := bnd e
  cases e
  refine ⟨m, h, sg, p1, R, S, e1, fun m1 H1 v x1 R1 r1 => ⟨m1, p1.2, sg, p2, R1, x1.sr R S, e2, fun m2 H2 u x2 R2 r2 => ?_⟩⟩
  have P1 := (P.after R1 x1).after R2 x2
  have r1' := x2.rl R1 r1
  clear r1
  obtain ⟨d1, h1⟩ := p1
  obtain ⟨d2, h2⟩ := p2
  cases d1 with
  | tup xs =>
    cases d2 with
    | tup ys =>
      cases e3
      simp only [Rl] at r1' r2
      obtain ⟨a, vs, rfl, q, rs⟩ := r1'
      obtain ⟨b, ws, rfl, q2, rs2⟩ := r2
      exact ⟨a, b, vs, ws, rfl, .inr ⟨q.sq, q2.sq, P1 m2 H2 _ Ext.refl R2 (.zpT q q2 rs rs2)⟩⟩
    | _ => cases e3
  | ref k =>
    cases d2 with
    | ref k2 =>
      simp only [srcZp] at e3
      obtain ⟨xs, f1, e3⟩ := bnd e3
      obtain ⟨ys, f2, e3⟩ := bnd e3
      cases e3
      obtain ⟨a, vs, rfl, ha, hq, rs⟩ := getL_ok R2 f1 r1'
      obtain ⟨b, ws, rfl, hb, hq2, rs2⟩ := getL_ok R2 f2 r2
      exact ⟨a, b, vs, ws, rfl, .inl ⟨hq, hq2, P1 m2 H2 _ Ext.refl R2 (.zp ha hb)⟩⟩
    | _ => cases e3
  | _ => cases e3
end
end Ez

/-! E4j: comprehensions -/
namespace Ez
open PySem PySem.Spec PyProof.Rows L2
/-! ### slots forgotten -/
theorem wipe_get (σ : L2.St) : ∀ (vs : List Nat) (j : Nat), (L2.wipe σ vs)[j]? = if j ∈ vs then σ[j]?.map (fun _ => none) else σ[j]?
  | [], j => by simp [L2.wipe]
  | v :: vs, j => by
    unfold L2.wipe
    rw [List.getElem?_set, L2.wipe_length]
    by_cases h : v = j
    · subst h
      rw [if_pos rfl, if_pos List.mem_cons_self]
      by_cases hl : v < σ.length
      · rw [if_pos hl, List.getElem?_eq_getElem hl]
        rfl
      · rw [if_neg hl, List.getElem?_eq_none (by omega)]
        rfl
    · rw [if_neg h, wipe_get σ vs j]
      by_cases hm : j ∈ vs
      · rw [if_pos hm, if_pos (List.mem_cons_of_mem _ hm)]
      · rw [if_neg hm, if_neg (by simp [hm]; exact fun z => h z.symm)]
theorem wipe_set {σ : L2.St} {vs : List Nat} {i : Nat} {x : Option V} (h : i ∈ vs) : L2.wipe (σ.set i x) vs = L2.wipe σ vs := by
  refine List.ext_getElem? fun j => ?_
  rw [wipe_get, wipe_get, List.getElem?_set]
  by_cases hj : i = j
  · subst hj
    rw [if_pos h, if_pos h, if_pos rfl]
    by_cases hl : i < σ.length
    · rw [if_pos hl, List.getElem?_eq_getElem hl]
      rfl
    · rw [if_neg hl, List.getElem?_eq_none (by omega)]
  · rw [if_neg hj]
theorem wipe_wipe {σ : L2.St} {vs : List Nat} : L2.wipe (L2.wipe σ vs) vs = L2.wipe σ vs := by
  refine List.ext_getElem? fun j => ?_
  rw [wipe_get, wipe_get]
  by_cases hj : j ∈ vs
  · simp only [hj, if_true]
    cases σ[j]? <;> rfl
  · simp only [hj, if_false]
/-! ### some fuel below a line -/
section
variable {X : Cx} {n : Nat}
theorem PE.any {e : Expr} {t : Nat → TE} (h : ∀ k, k ≤ n → PE X e (t k)) : PE X e (fun σ H Q => ∃ k, k ≤ n ∧ t k σ H Q) := ⟨fun pins s σ H Q I ⟨k, hk, q⟩ => (h k hk).run pins s σ H Q I q⟩
theorem PT.any {e : Expr} {t : Nat → TT} (h : ∀ k, k ≤ n → PT X e (t k)) : PT X e (fun σ H Q => ∃ k, k ≤ n ∧ t k σ H Q) := ⟨fun pins s σ H Q I ⟨k, hk, q⟩ => (h k hk).run pins s σ H Q I q⟩
theorem PTs.any {e : List Expr} {t : Nat → TT} (h : ∀ k, k ≤ n → PTs X e (t k)) : PTs X e (fun σ H Q => ∃ k, k ≤ n ∧ t k σ H Q) := ⟨fun pins s σ H Q I ⟨k, hk, q⟩ => (h k hk).run pins s σ H Q I q⟩
theorem PG.any {e : Expr} {t : Nat → L2.TG} (h : ∀ k, k ≤ n → PG X e (t k)) : PG X e (fun v σ H Q => ∃ k, k ≤ n ∧ t k v σ H Q) := ⟨fun pins s σ H v u Q I r ⟨k, hk, q⟩ => (h k hk).run pins s σ H v u Q I r q⟩
theorem PSs.any {e : List Stmt} {t : Nat → TS} (h : ∀ k, k ≤ n → PSs X e (t k)) : PSs X e (fun D σ H => ∃ k, k ≤ n ∧ t k D σ H) := ⟨fun pins s σ H D I ⟨k, hk, q⟩ => (h k hk).run pins s σ H D I q⟩
theorem PTs.imp {es : List Expr} {t t' : TT} (h : PTs X es t) (w : ∀ σ H Q, t' σ H Q → t σ H Q) : PTs X es t' := ⟨fun pins s σ H Q I q => h.run pins s σ H Q I (w σ H Q q)⟩
end
/-! ### targets of a comprehension -/
section
variable (T : Tab) (K : Fg)
def rC (own : List Nat) (n l : Nat) (g : TG) : L2.TG := fun v σ H Q => ∃ m h sg d p, Hr K m h H ∧ Sr K m H sg σ ∧ Rl K m H d v ∧ evs T n .g (l, g, d, sg, h) = some p ∧ ∀ σ', p.2 = h → Sr K m H p.1 σ' → L2.wipe σ' own = L2.wipe σ own → Q σ' H
def rCs (own : List Nat) (n l : Nat) (gs : List TG) : TGs := fun vs σ H Q => ∃ m h sg ds p, Hr K m h H ∧ Sr K m H sg σ ∧ Rls K m H ds vs ∧ evs T n .gs (l, gs, ds, sg, h) = some p ∧ ∀ σ', p.2 = h → Sr K m H p.1 σ' → L2.wipe σ' own = L2.wipe σ own → Q σ' H
end
section
variable {T : Tab} {X : Cx} {C : Ck} {sc : Scope} {n l : Nat} {own : List Nat}
theorem c_nm {i : Nat} {x : Str} {p : Pos} (hN : X.N.Nodup) (hi : X.N[i]? = some x) (hx : Loc X.env.scope x) (hf : X.fn x = true ∨ X.env.scope.names.lookup x = some .local) (ho : i ∈ own) : PG X (.Name x p) (rC T X.K own (n + 1) l (.nm i)) := by
  refine PG.imp (pg_name hN hi hx hf) fun v σ H Q ⟨m, h, sg, d, p, R, S, r, e, P⟩ => ?_
  simp only [evs, step, Option.some.injEq] at e
  subst e
  exact P _ rfl (S.set r) (wipe_set ho)
theorem asg_cons {e : Expr} {es : List Expr} {env : Env} (h : isStar e = false) : assignEach (e :: es) env = (false, assign e env) :: assignEach es env := by
  cases e <;> first | rfl | simp [isStar] at h
theorem asg_len : ∀ {es : List Expr} {env : Env}, noStars es = true → (assignEach es env).length = es.length ∧ (assignEach es env).findIdx? (·.1) = none
  | [], _, _ => ⟨rfl, rfl⟩
  | e :: es, env, h => by
    unfold noStars at h
    rw [List.all_cons, Bool.and_eq_true, Bool.not_eq_true'] at h
    obtain ⟨h1, h2⟩ := asg_len (es := es) (env := env) h.2
    rw [asg_cons h.1]
    refine ⟨by simp [h1], ?_⟩
    rw [List.findIdx?_cons]
    simp [h2]
theorem cs_nil : PGs X [] (rCs T X.K own (n + 1) l []) := by
  refine PGs.imp pgs_nil fun v σ H Q ⟨m, h, sg, ds, p, R, S, r, e, P⟩ => ?_
  cases ds with
  | nil =>
    simp only [evs, step, Option.some.injEq] at e
    subst e
    exact ⟨r, P σ rfl S rfl⟩
  | cons d ds => cases e
theorem cs_cons {e : Expr} {es : List Expr} {g : TG} {gs : List TG} (hs : isStar e = false) (h1 : PG X e (rC T X.K own n l g)) (h2 : PGs X es (rCs T X.K own n l gs)) : PGs X (e :: es) (rCs T X.K own (n + 1) l (g :: gs)) := by
  refine PGs.imp (pgs_cons h1 h2 (by rw [asg_cons hs]; rfl)) fun v σ H Q ⟨m, h, sg, ds, p, R, S, r, e, P⟩ => ?_
  cases ds with
  | nil => cases e
  | cons d ds =>
    simp only [evs, step] at e
    obtain ⟨p1, e1, e⟩ := bnd e
    simp only [Rls] at r
    obtain ⟨v1, t, rfl, r1, r2⟩ := r
    refine ⟨v1, t, rfl, m, h, sg, d, p1, R, S, r1, e1, fun σ' eh S' w => ?_⟩
    refine ⟨m, p1.2, p1.1, ds, p, by rw [eh]; exact R, S', r2, e, fun σ2 eh2 S2 w2 => ?_⟩
    exact P σ2 (eh2.trans eh) S2 (w2.trans w)
theorem c_tu (hc : X.calm = true) {es : List Expr} {gs : List TG} {k : Nat} {p : Pos} (hs : noStars es = true) (hl : gs.length = es.length) (h : PGs X es (rCs T X.K own n l gs)) : PG X (.Tuple es k p) (rC T X.K own (n + 1) l (.tu gs)) := by
  refine PG.imp (pg_tup hc h (asg_len hs).1 (asg_len hs).2) fun v σ H Q ⟨m, h, sg, d, p, R, S, r, e, P⟩ => ?_
  simp only [evs, step] at e
  cases d with
  | tup xs =>
    simp only at e
    split at e
    · rename_i hx
      simp only [Rl] at r
      obtain ⟨a, vs, rfl, q, rs⟩ := r
      exact ⟨a, vs, rfl, q.sq, by rw [rs.length, hx, hl], m, h, sg, xs, p, R, S, rs, e, P⟩
    · cases e
  | ptp xs =>
    simp only at e
    split at e
    · rename_i hx
      simp only [Rl] at r
      obtain ⟨a, vs, rfl, q, rs⟩ := r
      exact ⟨a, vs, rfl, SqT.of q, by rw [rs.length, hx, hl], m, h, sg, xs, p, R, S, rs, e, P⟩
    · cases e
  | _ => cases e
/-! ### [.. for .. in .. if ..] -/
theorem ts_ok {ifs : List Expr} {cs : List CE} (h0 : ifs = [] → cs = []) (h1 : ∀ c, ifs = [c] → ∃ d, cs = [d] ∧ PT X c (rT T X.K n l d)) (hl : ifs.length ≤ 1) : PTs X ifs (rTs T X.K (n + 1) l cs) := by
  cases ifs with
  | nil =>
    cases h0 rfl
    refine PTs.imp pts_nil fun σ H Q ⟨m, h, sg, p, R, S, e, P⟩ => ?_
    simp only [evs, step, Option.some.injEq] at e
    subst e
    exact P m H Ext.refl R
  | cons c t =>
    cases t with
    | nil =>
      obtain ⟨d, rfl, hd⟩ := h1 c rfl
      exact PTs.imp (pts_one hd) fun σ H Q ⟨m, h, sg, p, R, S, e, P⟩ => ⟨m, h, sg, p, R, S, e, P⟩
    | cons _ _ => simp at hl
theorem lc_ok {K : Fg} {elt : CE} {tg : TG} {it : CI} {ifs : List CE} {σ : L2.St} {H : Hp} {Q : VK} (hh : rE T K (n + 1) l (.lc own elt tg it ifs) σ H Q) :
    tLc (rCi T K n l it) (fun v σ H Q => ∃ k, k ≤ n ∧ rC T K own k l tg v σ H Q) (fun σ H Q => ∃ k, k ≤ n ∧ rTs T K k l ifs σ H Q) (fun σ H Q => ∃ k, k ≤ n ∧ rE T K k l elt σ H Q) own σ H Q := by
  obtain ⟨m, h, sg, q, R, S, e, P⟩ := hh
  simp only [evs, step, stepE] at e
  obtain ⟨p1, e1, e⟩ := bnd e
  obtain ⟨h2, e2, e⟩ := bnd e
  cases e
  refine ⟨m, h, sg, p1, R, S, e1, fun m1 H1 J x1 R1 S1 D hD => ?_⟩
  have xn := Ext.new (m := m1) (o := HO.lst []) hD
  have Rn : Hr K (m1 ++ [D]) (p1.2 ++ [.lst []]) (upd H1 D (.lst [])) := R1.new hD ⟨[], upd_same, rfl⟩
  have xb : Ext m (m1 ++ [D]) H (upd H1 D (.lst [])) := x1.trans R1 xn
  have hN : (m1 ++ [D])[p1.2.length]? = some D := by rw [← R1.len]; simp
  refine ⟨fun i k H' => k ≤ n ∧ ∃ m' h' src, Hr K m' h' H' ∧ SrcR K m' H' src J i ∧ Ext (m1 ++ [D]) m' (upd H1 D (.lst [])) H' ∧ evs T k .lc (l, elt, tg, ifs, src, p1.2.length, Ez.wipe sg own, h') = some h2, ⟨n, Nat.le_refl _, _, _, p1.1, Rn, S1.mono R1 xn, Ext.refl, e2⟩, ?_⟩
  rintro i k H' ⟨hk, m', h', src, R', S', x', e'⟩
  cases k with
  | zero => cases e'
  | succ k =>
    simp only [evs, step] at e'
    obtain ⟨o, f1, e'⟩ := bnd e'
    cases o with
    | none =>
      cases e'
      exact .inl ⟨S'.stop R' f1, P m' H' _ (xb.trans Rn x') R' ⟨D, rfl, x'.ix _ _ hN⟩⟩
    | some x =>
      obtain ⟨p2, e3, e'⟩ := bnd e'
      obtain ⟨p3, e4, e'⟩ := bnd e'
      have nx := S'.next (x := x.1) (src' := x.2) R' f1
      refine .inr ⟨nx.go, _, fun H'' w => ⟨k, Nat.lt_succ_self _, w⟩, fun v H2 y => ?_⟩
      obtain ⟨y1, y2, y3, y4⟩ := nx.yld v H2 y
      have xx := x'.trans R' y1
      have Sw : Sr K m' H2 (Ez.wipe sg own) (L2.wipe σ own) := xx.sr Rn (xb.sr R (S.wipe own))
      refine ⟨k, by omega, m', h', _, x.1, p2, y2, Sw, y3, e3, fun σ2 eh S2 w2 => ⟨w2.trans wipe_wipe, k, by omega, m', p2.2, p2.1, p3, by rw [eh]; exact y2, S2, e4, fun m3 H3 x3 R3 => ?_⟩⟩
      have y2' : Hr K m' p2.2 H2 := by rw [eh]; exact y2
      split at e'
      · rename_i hb
        dsimp only
        obtain ⟨p4, e5, e'⟩ := bnd e'
        obtain ⟨acc, e6, e'⟩ := bnd e'
        rw [if_pos hb]
        refine ⟨k, by omega, m3, p3.2, p2.1, p4, R3, x3.sr y2' S2, e5, fun m4 H4 u x4 R4 r4 => ?_⟩
        split at e'
        · rename_i hl
          have x5 := (xx.trans y2' x3).trans R3 x4
          obtain ⟨a, vs, ea, hm, hv, rs⟩ := getM_ok R4 e6 (show Rl K m4 H4 (.ref p1.2.length) (.ref D) from ⟨D, rfl, x5.ix _ _ hN⟩)
          cases ea
          refine ⟨vs, hv, ?_, ?_⟩
          · rw [rs.length, ← SL_eq]
            exact hl
          · have xs := Ext.set (H := H4) (u := HO.lst (vs ++ [u])) hm
            have Rs : Hr K m4 (p4.2.set p1.2.length (.lst (acc ++ [p4.1]))) (upd H4 D (.lst (vs ++ [u]))) := R4.set hm ⟨_, upd_same, xs.rls R4 (rs.append (Rls.one r4))⟩
            exact ⟨by omega, m4, _, x.2, Rs, ((y4.mono y2' x3).mono R3 x4).mono R4 xs, x5.trans R4 xs, e'⟩
        · cases e'
      · rename_i hb
        dsimp only
        rw [if_neg hb]
        exact ⟨by omega, m3, _, x.2, R3, y4.mono y2' x3, xx.trans y2' x3, e'⟩
theorem dc_ok {K : Fg} {kx vx : CE} {tg : TG} {it : CI} {ifs : List CE} {σ : L2.St} {H : Hp} {Q : VK} (hh : rE T K (n + 1) l (.dc own kx vx tg it ifs) σ H Q) :
    tDc (rCi T K n l it) (fun v σ H Q => ∃ k, k ≤ n ∧ rC T K own k l tg v σ H Q) (fun σ H Q => ∃ k, k ≤ n ∧ rTs T K k l ifs σ H Q) (fun σ H Q => ∃ k, k ≤ n ∧ rE T K k l kx σ H Q) (fun σ H Q => ∃ k, k ≤ n ∧ rE T K k l vx σ H Q) own σ H Q := by
  obtain ⟨m, h, sg, q, R, S, e, P⟩ := hh
  simp only [evs, step, stepE] at e
  obtain ⟨p1, e1, e⟩ := bnd e
  obtain ⟨h2, e2, e⟩ := bnd e
  cases e
  refine ⟨m, h, sg, p1, R, S, e1, fun m1 H1 J x1 R1 S1 D hD => ?_⟩
  have xn := Ext.new (m := m1) (o := HO.dK []) hD
  have Rn : Hr K (m1 ++ [D]) (p1.2 ++ [.dK []]) (upd H1 D (.dK [])) := R1.new hD ⟨[], upd_same, rfl⟩
  have xb : Ext m (m1 ++ [D]) H (upd H1 D (.dK [])) := x1.trans R1 xn
  have hN : (m1 ++ [D])[p1.2.length]? = some D := by rw [← R1.len]; simp
  refine ⟨fun i k H' => k ≤ n ∧ ∃ m' h' src, Hr K m' h' H' ∧ SrcR K m' H' src J i ∧ Ext (m1 ++ [D]) m' (upd H1 D (.dK [])) H' ∧ evs T k .dc (l, kx, vx, tg, ifs, src, p1.2.length, Ez.wipe sg own, h') = some h2, ⟨n, Nat.le_refl _, _, _, p1.1, Rn, S1.mono R1 xn, Ext.refl, e2⟩, ?_⟩
  rintro i k H' ⟨hk, m', h', src, R', S', x', e'⟩
  cases k with
  | zero => cases e'
  | succ k =>
    simp only [evs, step] at e'
    obtain ⟨o, f1, e'⟩ := bnd e'
    cases o with
    | none =>
      cases e'
      exact .inl ⟨S'.stop R' f1, P m' H' _ (xb.trans Rn x') R' ⟨D, rfl, x'.ix _ _ hN⟩⟩
    | some x =>
      obtain ⟨p2, e3, e'⟩ := bnd e'
      obtain ⟨p3, e4, e'⟩ := bnd e'
      have nx := S'.next (x := x.1) (src' := x.2) R' f1
      refine .inr ⟨nx.go, _, fun H'' w => ⟨k, Nat.lt_succ_self _, w⟩, fun v H2 y => ?_⟩
      obtain ⟨y1, y2, y3, y4⟩ := nx.yld v H2 y
      have xx := x'.trans R' y1
      have Sw : Sr K m' H2 (Ez.wipe sg own) (L2.wipe σ own) := xx.sr Rn (xb.sr R (S.wipe own))
      refine ⟨k, by omega, m', h', _, x.1, p2, y2, Sw, y3, e3, fun σ2 eh S2 w2 => ⟨w2.trans wipe_wipe, k, by omega, m', p2.2, p2.1, p3, by rw [eh]; exact y2, S2, e4, fun m3 H3 x3 R3 => ?_⟩⟩
      have y2' : Hr K m' p2.2 H2 := by rw [eh]; exact y2
      split at e'
      · rename_i hb
        dsimp only
        obtain ⟨p4, e5, e'⟩ := bnd e'
        obtain ⟨p5, e6, e'⟩ := bnd e'
        obtain ⟨h6, e7, e'⟩ := bnd e'
        rw [if_pos hb]
        refine ⟨k, by omega, m3, p3.2, p2.1, p4, R3, x3.sr y2' S2, e5, fun m4 H4 u x4 R4 r4 => ?_⟩
        refine ⟨k, by omega, m4, p4.2, p2.1, p5, R4, x4.sr R3 (x3.sr y2' S2), e6, fun m5 H5 w x5 R5 r5 => ?_⟩
        have x6 := ((xx.trans y2' x3).trans R3 x4).trans R4 x5
        unfold dputK at e7
        split at e7
        · rename_i kvs hkv
          have hm := x6.ix _ _ hN
          obtain ⟨L, hL, rL⟩ : RlO K m5 H5 D (.dK kvs) := R5.ob _ _ _ hkv hm
          obtain ⟨a, H6, ea, dp, Qh⟩ := dput_ok (QH := fun H6 => Hr K m5 h6 H6 ∧ Ext m5 m5 H5 H6) e7 R5 (show Rl K m5 H5 (.ref p1.2.length) (.ref D) from ⟨D, rfl, hm⟩) (x5.rl R4 r4) r5 (fun H6 y z => ⟨z, y⟩)
          cases ea
          rcases dp with (⟨L2, kq, hL2, hy, hlen, hH6⟩ | hT) | hT
          · refine ⟨L2, kq, hy, hL2, hlen, ?_⟩
            rw [← hH6]
            exact ⟨by omega, m5, h6, x.2, Qh.1, (((y4.mono y2' x3).mono R3 x4).mono R4 x5).mono R5 Qh.2, x6.trans R5 Qh.2, e'⟩
          · exfalso
            obtain ⟨L3, ks, b, hL3, _⟩ := hT
            rw [hL] at hL3
            cases hL3
          · exfalso
            obtain ⟨L3, ks, b, hL3, _⟩ := hT
            rw [hL] at hL3
            cases hL3
        · cases e7
      · rename_i hb
        dsimp only
        rw [if_neg hb]
        exact ⟨by omega, m3, _, x.2, R3, y4.mono y2' x3, xx.trans y2' x3, e'⟩
end
end Ez

/-! E4k: all expressions -/
namespace Ez
open PySem PySem.Spec PyProof.Rows L2
section
variable {T : Tab} {X : Cx} {C : Ck} {sc scp : Scope} {n l : Nat} {own : List Nat}
theorem Cok.blk (O : Cok X C sc l) (s : Shared) (H : Hp) (cl : List (Str × Addr)) (Ca : Addr) (fp : List Addr) : Cok (X.blk s H scp (compEnvC scp cl Ca X.env) fp) C (relS scp sc) l := by
  refine ⟨O.room, O.gd, O.calm, O.hN, O.nd, ?_, O.md, PassesOwn.never⟩
  show relS scp X.env.scope = relS scp sc
  rw [O.hsc]
theorem loc_rel {x : Str} (h : isLoc scp x = true) : Loc (relS scp sc) x ∧ ((scp.names.lookup x == some .cell) = true ∨ (relS scp sc).names.lookup x = some .local) := by
  unfold isLoc at h
  simp only [Bool.or_eq_true, decide_eq_true_eq] at h
  rcases h with h | h
  · have := lookup_relS_keep (sc := sc) (by decide) h
    exact ⟨.inl this, .inr this⟩
  · have := lookup_relS_keep (sc := sc) (by decide) h
    exact ⟨.inr this, .inl (by rw [h]; rfl)⟩
theorem rC0 {e : Expr} {g : TG} : PG X e (rC T X.K own 0 l g) := ⟨fun _ _ _ _ _ _ _ _ _ ⟨_, _, _, _, _, _, _, _, e, _⟩ => by cases e⟩
theorem rCs0 {e : List Expr} {g : List TG} : PGs X e (rCs T X.K own 0 l g) := ⟨fun _ _ _ _ _ _ _ _ _ ⟨_, _, _, _, _, _, _, _, e, _⟩ => by cases e⟩
theorem all2_len {α β : Type} {f : α → β → Bool} : ∀ {as : List α} {bs : List β}, all2 f as bs = true → as.length = bs.length
  | [], [], _ => rfl
  | [], _ :: _, h => by cases h
  | _ :: _, [], h => by cases h
  | a :: as, b :: bs, h => by
    simp only [all2, Bool.and_eq_true] at h
    simp [all2_len h.2]
theorem cts_ok (f : Nat) (h : ∀ (e : Expr) (g : TG) (k : Nat), ckT C scp own f e g = true → PG X e (rC T X.K own k l g)) : ∀ (es : List Expr) (gs : List TG) (k : Nat), noStars es = true → all2 (ckT C scp own f) es gs = true → PGs X es (rCs T X.K own k l gs)
  | [], [], k, _, _ => by
    cases k with
    | zero => exact rCs0
    | succ k => exact cs_nil
  | [], _ :: _, _, _, h => by cases h
  | _ :: _, [], _, _, h => by cases h
  | e :: es, g :: gs, k, hs, ha => by
    unfold noStars at hs
    rw [List.all_cons, Bool.and_eq_true, Bool.not_eq_true'] at hs
    simp only [all2, Bool.and_eq_true] at ha
    cases k with
    | zero => exact rCs0
    | succ k => exact cs_cons hs.1 (h e g k ha.1) (cts_ok f h es gs k hs.2 ha.2)
theorem ct_ok (O : Cok X C sc l) (s : Shared) (H : Hp) (cl : List (Str × Addr)) (Ca : Addr) (fp : List Addr) : ∀ (f : Nat) (e : Expr) (g : TG) (k : Nat), ckT C scp own f e g = true → PG (X.blk s H scp (compEnvC scp cl Ca X.env) fp) e (rC T X.K own k l g)
  | 0, _, _, _, h => by cases h
  | f + 1, e, g, 0, _ => rC0
  | f + 1, e, g, k + 1, h => by
    unfold ckT at h
    have O' := O.blk (scp := scp) s H cl Ca fp
    cases g with
    | nm i =>
      simp only at h
      split at h
      · rename_i x hx
        obtain ⟨p, rfl⟩ := asName_eq hx
        simp only [Bool.and_eq_true, decide_eq_true_eq] at h
        obtain ⟨⟨h1, h2⟩, h3⟩ := h
        obtain ⟨g1, g2⟩ := loc_rel (sc := sc) h2
        have hs := O'.hsc
        refine c_nm (X := X.blk s H scp (compEnvC scp cl Ca X.env) fp) (by rw [O'.hN]; exact O'.nd) (by rw [O'.hN]; exact h1) (by rw [hs]; exact g1) ?_ (by simpa using h3)
        rw [hs]
        exact g2
      · cases h
    | tu gs =>
      simp only at h
      split at h
      · rename_i es hx
        obtain ⟨kk, p, rfl⟩ := asTupE_eq hx
        rw [Bool.and_eq_true] at h
        exact c_tu (X := X.blk s H scp (compEnvC scp cl Ca X.env) fp) O'.calm h.1 (all2_len h.2).symm (cts_ok f (fun e g k => ct_ok O s H cl Ca fp f e g k) es gs k h.1 h.2)
      · cases h
    | sb _ _ => cases h
theorem own_snd (C : Ck) (own : List Nat) : (ownOf C own).map (·.2) = own := by
  unfold ownOf
  rw [List.map_map]
  exact List.map_id _
theorem fold_no {e : Expr} {env : Env} (h : isSet e = false) : ∀ x, foldedSetIterable e env x = pure x := by
  intro x
  cases e <;> first | rfl | simp [isSet] at h
theorem g_lc (O : Cok X C sc l) {elt : CE} {tg : TG} {it : CI} {ifs : List CE} {x t i : Expr} {ts : List Expr} {p : Pos} (hb : blkC C.N sc scp (ownOf C own) = true) (hset : isSet i = false) (hi : PI X t i (rCi T X.K n l it))
    (hg : ∀ (s : Shared) (H : Hp) (Ca : Addr) (cl : List (Str × Addr)) (fp : List Addr) (k : Nat), k ≤ n → PG (X.blk s H scp (compEnvC scp cl Ca X.env) fp) t (rC T X.K own k l tg))
    (ht : ∀ (s : Shared) (H : Hp) (Ca : Addr) (cl : List (Str × Addr)) (fp : List Addr) (k : Nat), k ≤ n → PTs (X.blk s H scp (compEnvC scp cl Ca X.env) fp) ts (rTs T X.K k l ifs))
    (he : ∀ (s : Shared) (H : Hp) (Ca : Addr) (cl : List (Str × Addr)) (fp : List Addr) (k : Nat), k ≤ n → PE (X.blk s H scp (compEnvC scp cl Ca X.env) fp) x (rE T X.K k l elt)) :
    PE X (.ListComp x [⟨t, i, ts, 0⟩] scp p) (rE T X.K (n + 1) l (.lc own elt tg it ifs)) := by
  have ok : BlkOk X.N X.env.scope scp (ownOf C own) := by rw [O.hN, O.hsc]; exact blkOk_by hb
  have := pe_lc (pos := p) O.calm (by rw [O.hN]; exact O.nd) hi ok (fun s H Ca cl fp => PG.any (hg s H Ca cl fp)) (fun s H Ca cl fp => PTs.any (ht s H Ca cl fp)) (fun s H Ca cl fp => PE.any (he s H Ca cl fp)) (fold_no hset)
  rw [own_snd] at this
  exact PE.imp this fun σ H Q h => lc_ok h
theorem g_dc (O : Cok X C sc l) {kc vc : CE} {tg : TG} {it : CI} {ifs : List CE} {x y t i : Expr} {ts : List Expr} {p : Pos} (hb : blkC C.N sc scp (ownOf C own) = true) (hset : isSet i = false) (hi : PI X t i (rCi T X.K n l it))
    (hg : ∀ (s : Shared) (H : Hp) (Ca : Addr) (cl : List (Str × Addr)) (fp : List Addr) (k : Nat), k ≤ n → PG (X.blk s H scp (compEnvC scp cl Ca X.env) fp) t (rC T X.K own k l tg))
    (ht : ∀ (s : Shared) (H : Hp) (Ca : Addr) (cl : List (Str × Addr)) (fp : List Addr) (k : Nat), k ≤ n → PTs (X.blk s H scp (compEnvC scp cl Ca X.env) fp) ts (rTs T X.K k l ifs))
    (hk : ∀ (s : Shared) (H : Hp) (Ca : Addr) (cl : List (Str × Addr)) (fp : List Addr) (k : Nat), k ≤ n → PE (X.blk s H scp (compEnvC scp cl Ca X.env) fp) x (rE T X.K k l kc))
    (he : ∀ (s : Shared) (H : Hp) (Ca : Addr) (cl : List (Str × Addr)) (fp : List Addr) (k : Nat), k ≤ n → PE (X.blk s H scp (compEnvC scp cl Ca X.env) fp) y (rE T X.K k l vc)) :
    PE X (.DictComp x y [⟨t, i, ts, 0⟩] scp p) (rE T X.K (n + 1) l (.dc own kc vc tg it ifs)) := by
  have ok : BlkOk X.N X.env.scope scp (ownOf C own) := by rw [O.hN, O.hsc]; exact blkOk_by hb
  have := pe_dc (pos := p) O.calm (by rw [O.hN]; exact O.nd) hi ok (fun s H Ca cl fp => PG.any (hg s H Ca cl fp)) (fun s H Ca cl fp => PTs.any (ht s H Ca cl fp)) (fun s H Ca cl fp => PE.any (hk s H Ca cl fp)) (fun s H Ca cl fp => PE.any (he s H Ca cl fp)) (fold_no hset)
  rw [own_snd] at this
  exact PE.imp this fun σ H Q h => dc_ok h
/-! ### no fuel -/
theorem rE0 {e : Expr} {c : CE} : PE X e (rE T X.K 0 l c) := ⟨fun _ _ _ _ _ _ ⟨_, _, _, _, _, _, e, _⟩ => by cases e⟩
theorem rT0 {e : Expr} {c : CE} : PT X e (rT T X.K 0 l c) := ⟨fun _ _ _ _ _ _ ⟨_, _, _, _, _, _, e, _⟩ => by cases e⟩
theorem rT0W {e : Expr} {c : CE} : PW X e (rT T X.K 0 l c) := ⟨fun _ _ _ _ _ _ _ ⟨_, _, _, _, _, _, e, _⟩ => by cases e⟩
theorem rTs0 {e : List Expr} {c : List CE} : PTs X e (rTs T X.K 0 l c) := ⟨fun _ _ _ _ _ _ ⟨_, _, _, _, _, _, e, _⟩ => by cases e⟩
theorem rEs0 {e : List Expr} {c : List CE} : PA X e (rEs T X.K 0 l c) := ⟨fun _ _ _ _ _ _ _ ⟨_, _, _, _, _, _, e, _⟩ => by cases e⟩
theorem rSp0 {e : List Expr} {c : List (Bool × CE)} : PA X e (rSp T X.K 0 l c) := ⟨fun _ _ _ _ _ _ _ ⟨_, _, _, _, _, _, e, _⟩ => by cases e⟩
theorem rCi0 {tg e : Expr} {c : CI} : PI X tg e (rCi T X.K 0 l c) := ⟨fun _ _ _ _ _ _ ⟨_, _, _, _, _, _, e, _⟩ => by cases e⟩
end
/-! ### all expressions at a fuel -/
structure Hyp (T : Tab) (X : Cx) (C : Ck) (sc : Scope) (l n : Nat) : Prop where
  e : ∀ (f : Nat) (x : Expr) (c : CE), ckE C f sc x c = true → PE X x (rE T X.K n l c)
  t : ∀ (f g : Nat) (x : Expr) (c : CE), ckE C f sc x c = true → tokC g c = true → PT X x (rT T X.K n l c)
  wa : ∀ (f g : Nat) (xs : List Expr) (cs : List CE) (p : Pos), all2 (ckE C f sc) xs cs = true → cs.all (tokC g) = true → PW X (.BoolOp .And xs p) (rT T X.K n l (.and_ cs))
  wo : ∀ (f g : Nat) (xs : List Expr) (cs : List CE) (p : Pos), all2 (ckE C f sc) xs cs = true → cs.all (tokC g) = true → PW X (.BoolOp .Or xs p) (rT T X.K n l (.or_ cs))
  es : ∀ (f : Nat) (xs : List Expr) (cs : List CE), noStars xs = true → all2 (ckE C f sc) xs cs = true → PA X xs (rEs T X.K n l cs)
  sp : ∀ (f : Nat) (xs : List Expr) (cs : List (Bool × CE)), all2 (starOk (ckE C f sc)) xs cs = true → PA X xs (rSp T X.K n l cs)
  ci : ∀ (f : Nat) (tg x : Expr) (c : CI), ckI C f sc tg x c = true → PI X tg x (rCi T X.K n l c)
theorem hyp0 {T : Tab} {X : Cx} {C : Ck} {sc : Scope} {l : Nat} : Hyp T X C sc l 0 := ⟨fun _ _ _ _ => rE0, fun _ _ _ _ _ _ => rT0, fun _ _ _ _ _ _ _ => rT0W, fun _ _ _ _ _ _ _ => rT0W, fun _ _ _ _ _ => rEs0, fun _ _ _ _ => rSp0, fun _ _ _ _ _ => rCi0⟩
end Ez

/-! E4l: all expressions, by fuel -/
namespace Ez
open PySem PySem.Spec PyProof.Rows L2
theorem all2_nil {α β : Type} {f : α → β → Bool} {as : List α} {bs : List β} (h : all2 f as bs = true) (e : as = []) : bs = [] := by
  subst e
  cases bs with
  | nil => rfl
  | cons b bs => cases h
def plainC : CE → Bool
  | .not_ _ => false | .and_ _ => false | .or_ _ => false | .ite _ _ _ => false | .neg _ => false | .cmp _ _ _ => false | .chn _ _ _ _ _ => false
  | .calk _ _ _ => false
  | _ => true
theorem plain_of {C : Ck} {f : Nat} {sc : Scope} {x : Expr} {c : CE} (h : ckE C f sc x c = true) (hp : plainC c = true) : plainT x = true := by
  cases f with
  | zero => simp [ckE] at h
  | succ f =>
    cases c <;> simp [plainC] at hp <;> simp only [ckE] at h <;> (repeat' split at h) <;> first
      | (cases h; done)
      | (obtain ⟨p, rfl⟩ := asName_eq (by assumption); rfl)
      | (obtain ⟨j, p, rfl⟩ := asConst_eq (by assumption); rfl)
      | (obtain ⟨p, rfl⟩ := asBin_eq (by assumption); rfl)
      | (obtain ⟨k, p, rfl⟩ := asTupE_eq (by assumption); rfl)
      | (obtain ⟨p, rfl⟩ := asLstE_eq (by assumption); rfl)
      | (obtain ⟨p, q, rfl⟩ := asCallN_eq (e := x) (by assumption); rfl)
      | (obtain ⟨p, q, rfl, _⟩ := asMeth_eq (by assumption); rfl)
      | (obtain ⟨p, rfl⟩ := asSubE_eq (by assumption); rfl)
      | (obtain ⟨p, rfl⟩ := asLC_eq (by assumption); rfl)
      | (obtain ⟨p, rfl⟩ := asDC_eq (by assumption); rfl)
      | (obtain ⟨p, rfl⟩ := asDict_eq (by assumption); rfl)
section
variable {T : Tab} {X : Cx} {C : Ck} {sc : Scope} {n l : Nat}
theorem step_es (H : Hyp T X C sc l n) (f : Nat) (xs : List Expr) (cs : List CE) (hs : noStars xs = true) (h : all2 (ckE C f sc) xs cs = true) : PA X xs (rEs T X.K (n + 1) l cs) := by
  cases xs with
  | nil =>
    cases all2_nil h rfl
    exact g_nil
  | cons x xs =>
    cases cs with
    | nil => cases h
    | cons c cs =>
      unfold noStars at hs
      rw [List.all_cons, Bool.and_eq_true, Bool.not_eq_true'] at hs
      simp only [all2, Bool.and_eq_true] at h
      exact g_cons hs.1 (H.e f x c h.1) (H.es f xs cs hs.2 h.2)
theorem asStar_eq {e x : Expr} (h : asStar e = some x) : ∃ p, e = .Starred x p := by
  cases e <;> simp [asStar] at h
  subst h
  exact ⟨_, rfl⟩
theorem step_sp (H : Hyp T X C sc l n) (f : Nat) (xs : List Expr) (cs : List (Bool × CE)) (h : all2 (starOk (ckE C f sc)) xs cs = true) : PA X xs (rSp T X.K (n + 1) l cs) := by
  cases xs with
  | nil =>
    cases all2_nil h rfl
    exact s_nil
  | cons x xs =>
    cases cs with
    | nil => cases h
    | cons c cs =>
      simp only [all2, Bool.and_eq_true] at h
      obtain ⟨b, c⟩ := c
      obtain ⟨h1, h2⟩ := h
      cases b with
      | true =>
        simp only [starOk] at h1
        split at h1
        · rename_i y hy
          obtain ⟨p, rfl⟩ := asStar_eq hy
          exact s_star (H.e f y c h1) (H.sp f xs cs h2)
        · cases h1
      | false =>
        simp only [starOk, Bool.and_eq_true, Bool.not_eq_true'] at h1
        exact s_cons h1.1 (H.e f x c h1.2) (H.sp f xs cs h2)
theorem step_wa (H : Hyp T X C sc l n) (f g : Nat) (xs : List Expr) (cs : List CE) (p : Pos) (h : all2 (ckE C f sc) xs cs = true) (ht : cs.all (tokC g) = true) : PW X (.BoolOp .And xs p) (rT T X.K (n + 1) l (.and_ cs)) := by
  cases xs with
  | nil =>
    cases all2_nil h rfl
    exact ⟨fun _ _ _ _ _ _ _ ⟨_, _, _, _, _, _, e, _⟩ => by simp [evs, step] at e⟩
  | cons x xs =>
    cases cs with
    | nil => cases h
    | cons c cs =>
      simp only [all2, Bool.and_eq_true] at h
      rw [List.all_cons, Bool.and_eq_true] at ht
      cases xs with
      | nil =>
        cases all2_nil h.2 rfl
        exact w_and1 (H.t f g x c h.1 ht.1)
      | cons y xs =>
        cases cs with
        | nil => cases h.2
        | cons d cs => exact w_and (H.t f g x c h.1 ht.1) (H.wa f g (y :: xs) (d :: cs) p h.2 ht.2)
theorem step_wo (H : Hyp T X C sc l n) (f g : Nat) (xs : List Expr) (cs : List CE) (p : Pos) (h : all2 (ckE C f sc) xs cs = true) (ht : cs.all (tokC g) = true) : PW X (.BoolOp .Or xs p) (rT T X.K (n + 1) l (.or_ cs)) := by
  cases xs with
  | nil =>
    cases all2_nil h rfl
    exact ⟨fun _ _ _ _ _ _ _ ⟨_, _, _, _, _, _, e, _⟩ => by simp [evs, step] at e⟩
  | cons x xs =>
    cases cs with
    | nil => cases h
    | cons c cs =>
      simp only [all2, Bool.and_eq_true] at h
      rw [List.all_cons, Bool.and_eq_true] at ht
      cases xs with
      | nil =>
        cases all2_nil h.2 rfl
        exact w_or1 (H.t f g x c h.1 ht.1)
      | cons y xs =>
        cases cs with
        | nil => cases h.2
        | cons d cs => exact w_or (H.t f g x c h.1 ht.1) (H.wo f g (y :: xs) (d :: cs) p h.2 ht.2)
theorem step_ci (O : Cok X C sc l) (H : Hyp T X C sc l n) (f : Nat) (tg x : Expr) (c : CI) (h : ckI C f sc tg x c = true) : PI X tg x (rCi T X.K (n + 1) l c) := by
  cases f with
  | zero => simp [ckI] at h
  | succ f =>
    cases c with
    | ex a =>
      simp only [ckI] at h
      exact ci_ex (H.e f x a h)
    | rg1 a =>
      simp only [ckI] at h
      split at h
      · rename_i z y hx
        obtain ⟨p, q, rfl⟩ := asCallN_eq hx
        simp only [Bool.and_eq_true, decide_eq_true_eq, Bool.not_eq_true'] at h
        obtain ⟨⟨⟨rfl, h2⟩, h3⟩, h4⟩ := h
        exact ci_rg1 O h2 h3 (H.e f y a h4)
      · cases h
    | rg2 a b =>
      simp only [ckI] at h
      split at h
      · rename_i z y w hx
        obtain ⟨p, q, rfl⟩ := asCallN_eq hx
        simp only [Bool.and_eq_true, decide_eq_true_eq, Bool.not_eq_true'] at h
        obtain ⟨⟨⟨⟨⟨rfl, h2⟩, h3⟩, h4⟩, h5⟩, h6⟩ := h
        exact ci_rg2 O h2 h3 h4 (H.e f y a h5) (H.e f w b h6)
      · cases h
    | rg3 a b d =>
      simp only [ckI] at h
      split at h
      · rename_i z y w v hx
        obtain ⟨p, q, rfl⟩ := asCallN_eq hx
        simp only [Bool.and_eq_true, decide_eq_true_eq, Bool.not_eq_true'] at h
        obtain ⟨⟨⟨⟨⟨⟨⟨rfl, h2⟩, h3⟩, h4⟩, h5⟩, h6⟩, h7⟩, h8⟩ := h
        exact ci_rg3 O h2 h3 h4 h5 (H.e f y a h6) (H.e f w b h7) (H.e f v d h8)
      · cases h
    | en a =>
      simp only [ckI] at h
      split at h
      · rename_i z y hx
        obtain ⟨p, q, rfl⟩ := asCallN_eq hx
        simp only [Bool.and_eq_true, decide_eq_true_eq, Bool.not_eq_true'] at h
        obtain ⟨⟨⟨⟨rfl, h2⟩, h3⟩, h4⟩, h5⟩ := h
        exact ci_en O h4 h2 h3 (H.e f y a h5)
      · cases h
    | zp a b =>
      simp only [ckI] at h
      split at h
      · rename_i z y w hx
        obtain ⟨p, q, rfl⟩ := asCallN_eq hx
        simp only [Bool.and_eq_true, decide_eq_true_eq, Bool.not_eq_true'] at h
        obtain ⟨⟨⟨⟨⟨⟨rfl, h2⟩, h3⟩, h4⟩, h5⟩, h6⟩, h7⟩ := h
        exact ci_zp O h5 h2 h3 h4 (H.e f y a h6) (H.e f w b h7)
      · cases h
theorem pps_ok (C : Ck) (sc : Scope) (f : Nat) {pos : Pos} : ∀ (k : Nat) (kx : List (Option Expr)) (vx : List Expr) (ks : List (List Nat)) (cs : List CE), (∀ j, j < k → Hyp T X C sc l j) → all2 keyOkE kx ks = true → all2 (ckE C f sc) vx cs = true → ks.length = cs.length → ks.length < k →
    PPs X pos kx vx (mkP T X.K l k ks cs)
  | 0, _, _, _, _, _, _, _, _, h => by omega
  | k + 1, kx, vx, ks, cs, IH, h1, h2, hl, hk => by
    cases ks with
    | nil =>
      cases cs with
      | nil =>
        cases kx with
        | nil =>
          cases vx with
          | nil => exact pps_nil
          | cons _ _ => cases h2
        | cons _ _ => cases h1
      | cons _ _ => simp at hl
    | cons s ks =>
      cases cs with
      | nil => simp at hl
      | cons c cs =>
        cases kx with
        | nil => cases h1
        | cons a kx =>
          cases vx with
          | nil => cases h2
          | cons v vx =>
            simp only [all2, Bool.and_eq_true] at h1 h2
            cases a with
            | none => simp [keyOkE] at h1
            | some a =>
              have hk1 := h1.1
              simp only [keyOkE] at hk1
              split at hk1
              · rename_i x hx
                obtain ⟨j, p, rfl⟩ := asConst_eq hx
                rw [decide_eq_true_eq] at hk1
                subst hk1
                exact pps_cons pe_str ((IH k (Nat.lt_succ_self _)).e f v c h2.1) (pps_ok C sc f k kx vx ks cs (fun j hj => IH j (by omega)) h1.2 h2.2 (by simpa using hl) (by simp at hk; omega))
              · cases hk1
theorem optOk_some {f : Expr → CE → Bool} {lo : Option Expr} {clo : Option CE} (h : optOk f lo clo = true) : (∀ e, lo = some e → ∃ c, clo = some c ∧ f e c = true) ∧ (lo = none → clo = none) := by
  cases lo with
  | none =>
    cases clo with
    | none => exact ⟨fun e z => (by cases z), fun _ => rfl⟩
    | some c => cases h
  | some x =>
    cases clo with
    | none => cases h
    | some c => exact ⟨fun e z => (by cases z; exact ⟨c, rfl, h⟩), fun z => (by cases z)⟩
end
end Ez

/-! E4m: all expressions, by fuel -/
namespace Ez
open PySem PySem.Spec PyProof.Rows L2
section
variable {T : Tab} {X : Cx} {C : Ck} {sc : Scope} {n l : Nat}
theorem es_fuel : ∀ (n : Nat) (cs : List CE) (sg : Sg) (h : Hh) (p : List D × Hh), evs T n .es (l, cs, sg, h) = some p → cs.length < n
  | 0, _, _, _, _, e => by cases e
  | n + 1, [], _, _, _, _ => by simp
  | n + 1, c :: cs, sg, h, p, e => by
    simp only [evs, step] at e
    obtain ⟨p1, e1, e⟩ := bnd e
    obtain ⟨p2, e2, e⟩ := bnd e
    have := es_fuel n cs sg p1.2 p2 e2
    simp only [List.length_cons]
    omega
theorem es_len : ∀ (n : Nat) (cs : List CE) (sg : Sg) (h : Hh) (p : List D × Hh), evs T n .es (l, cs, sg, h) = some p → p.1.length = cs.length
  | 0, _, _, _, _, e => by cases e
  | n + 1, [], _, _, _, e => by
    simp only [evs, step, Option.some.injEq] at e
    subst e
    rfl
  | n + 1, c :: cs, sg, h, p, e => by
    simp only [evs, step] at e
    obtain ⟨p1, e1, e⟩ := bnd e
    obtain ⟨p2, e2, e⟩ := bnd e
    cases e
    simp only [List.length_cons, es_len n cs sg p1.2 p2 e2]
theorem tss_ok {ts : List Expr} {ifs : List CE} (f : Nat) (hl : ts.length ≤ 1) (ht : ifs.all (tokC 9) = true) (ha : all2 (ckE C f sc) ts ifs = true) : ∀ k, (∀ j, j < k → Hyp T X C sc l j) → PTs X ts (rTs T X.K k l ifs)
  | 0, _ => rTs0
  | k + 1, IH => by
    refine ts_ok (fun e => all2_nil ha e) (fun c e => ?_) hl
    subst e
    cases ifs with
    | nil => cases ha
    | cons d ds =>
      simp only [all2, Bool.and_eq_true] at ha
      rw [List.all_cons, Bool.and_eq_true] at ht
      cases all2_nil ha.2 rfl
      exact ⟨d, rfl, (IH k (Nat.lt_succ_self _)).t f 9 c d ha.1 ht.1⟩
theorem keyOk_all : ∀ {kx : List (Option Expr)} {ks : List (List Nat)}, all2 keyOkE kx ks = true → kx.all (·.isSome) = true
  | [], [], _ => rfl
  | [], _ :: _, h => by cases h
  | _ :: _, [], h => by cases h
  | none :: _, _ :: _, h => by simp [all2, keyOkE] at h
  | some _ :: kx, _ :: ks, h => by
    simp only [all2, Bool.and_eq_true] at h
    rw [List.all_cons, keyOk_all h.2]
    rfl
theorem step_e (O : Cok X C sc l) (Fs : FnsG T X.prog X.w X.K X.mg X.base C.fm n) (H : Hyp T X C sc l n) (Hlt : ∀ j, j < n → Hyp T X C sc l j)
    (HB : ∀ (scp : Scope) (s : Shared) (Hh : Hp) (cl : List (Str × Addr)) (Ca : Addr) (fp : List Addr) (j : Nat), j ≤ n → Hyp T (X.blk s Hh scp (compEnvC scp cl Ca X.env) fp) C (relS scp sc) l j)
    (f : Nat) (x : Expr) (c : CE) (h : ckE C f sc x c = true) : PE X x (rE T X.K (n + 1) l c) := by
  cases f with
  | zero => simp [ckE] at h
  | succ f =>
    cases c with
    | var i =>
      simp only [ckE] at h
      split at h
      · rename_i y hy
        obtain ⟨p, rfl⟩ := asName_eq hy
        rw [Bool.and_eq_true] at h
        exact g_var O h.1 h.2
      · cases h
    | cst d =>
      simp only [ckE] at h
      split at h
      · rename_i y hy
        obtain ⟨j, p, rfl⟩ := asConst_eq hy
        exact g_cst h
      · cases h
    | glb d =>
      simp only [ckE] at h
      split at h
      · rename_i y hy
        obtain ⟨p, rfl⟩ := asName_eq hy
        rw [Bool.and_eq_true] at h
        exact g_glb O h.1 h.2
      · cases h
    | bin op a b =>
      simp only [ckE] at h
      split at h
      · rename_i y o z hy
        obtain ⟨p, rfl⟩ := asBin_eq hy
        simp only [Bool.and_eq_true, decide_eq_true_eq] at h
        obtain ⟨⟨rfl, h1⟩, h2⟩ := h
        exact g_bin (H.e f y a h1) (H.e f z b h2)
      · cases h
    | neg a =>
      simp only [ckE] at h
      split at h
      · rename_i y hy
        obtain ⟨p, rfl⟩ := asNeg_eq hy
        exact g_neg (H.e f y a h)
      · cases h
    | not_ a =>
      simp only [ckE] at h
      split at h
      · rename_i y hy
        obtain ⟨p, rfl⟩ := asNot_eq hy
        exact g_notV (H.e f y a h)
      · cases h
    | and_ cs =>
      simp only [ckE] at h
      split at h
      · rename_i es hy
        obtain ⟨p, rfl⟩ := asAnd_eq hy
        cases es with
        | nil =>
          cases all2_nil h rfl
          exact ⟨fun _ _ _ _ _ _ ⟨_, _, _, _, _, _, e, _⟩ => by simp [evs, step, stepE] at e⟩
        | cons y es =>
          cases cs with
          | nil => cases h
          | cons c cs =>
            simp only [all2, Bool.and_eq_true] at h
            cases es with
            | nil =>
              cases all2_nil h.2 rfl
              exact g_and1 (H.e f y c h.1)
            | cons z es =>
              cases cs with
              | nil => cases h.2
              | cons d cs => exact g_and (H.e f y c h.1) (H.e (f + 1) (.BoolOp .And (z :: es) p) (.and_ (d :: cs)) (by simp only [ckE, asAnd]; exact h.2))
      · cases h
    | or_ cs =>
      simp only [ckE] at h
      split at h
      · rename_i es hy
        obtain ⟨p, rfl⟩ := asOr_eq hy
        cases es with
        | nil =>
          cases all2_nil h rfl
          exact ⟨fun _ _ _ _ _ _ ⟨_, _, _, _, _, _, e, _⟩ => by simp [evs, step, stepE] at e⟩
        | cons y es =>
          cases cs with
          | nil => cases h
          | cons c cs =>
            simp only [all2, Bool.and_eq_true] at h
            cases es with
            | nil =>
              cases all2_nil h.2 rfl
              exact g_or1 (H.e f y c h.1)
            | cons z es =>
              cases cs with
              | nil => cases h.2
              | cons d cs => exact g_or (H.e f y c h.1) (H.e (f + 1) (.BoolOp .Or (z :: es) p) (.or_ (d :: cs)) (by simp only [ckE, asOr]; exact h.2))
      · cases h
    | ite t a b =>
      simp only [ckE] at h
      split at h
      · rename_i y z w hy
        obtain ⟨p, rfl⟩ := asIf_eq hy
        simp only [Bool.and_eq_true] at h
        obtain ⟨⟨⟨h0, h1⟩, h2⟩, h3⟩ := h
        exact g_ite (H.t f 9 y t h1 h0) (H.e f z a h2) (H.e f w b h3)
      · cases h
    | cmp op a b =>
      simp only [ckE] at h
      split at h
      · rename_i y o z hy
        obtain ⟨p, rfl⟩ := asCmp_eq hy
        simp only [Bool.and_eq_true, decide_eq_true_eq, Bool.not_eq_true'] at h
        obtain ⟨⟨⟨rfl, h0⟩, h1⟩, h2⟩ := h
        exact g_cmp O h0 (H.e f y a h1) (H.e f z b h2)
      · cases h
    | chn o1 o2 a b d =>
      simp only [ckE] at h
      split at h
      · rename_i y o o' z w hy
        obtain ⟨p, rfl⟩ := asCmp_eq hy
        simp only [Bool.and_eq_true, decide_eq_true_eq, Bool.not_eq_true'] at h
        obtain ⟨⟨⟨⟨⟨rfl, rfl⟩, h0⟩, h1⟩, h2⟩, h3⟩ := h
        exact g_chn O h0 (H.e f y a h1) (H.e f z b h2) (H.e f w d h3)
      · cases h
    | tup cs =>
      simp only [ckE] at h
      split at h
      · rename_i es hy
        obtain ⟨k, p, rfl⟩ := asTupE_eq hy
        exact g_tup (H.sp f es cs h)
      · cases h
    | lst cs =>
      simp only [ckE] at h
      split at h
      · rename_i es hy
        obtain ⟨p, rfl⟩ := asLstE_eq hy
        rw [Bool.and_eq_true] at h
        exact g_lst (H.es f es cs h.1 h.2)
      · cases h
    | call g cs =>
      simp only [ckE] at h
      split at h
      · rename_i y es hy
        obtain ⟨p, q, rfl⟩ := asCallN_eq hy
        simp only [Bool.and_eq_true] at h
        obtain ⟨⟨⟨h1, h2⟩, h3⟩, h4⟩ := h
        exact g_call O Fs h1 h2 h3 (H.es f es cs h3 h4) (fun e => all2_nil h4 e)
      · cases h
    | bi b cs =>
      simp only [ckE] at h
      split at h
      · rename_i y es hy
        obtain ⟨p, q, rfl⟩ := asCallN_eq hy
        simp only [Bool.and_eq_true, decide_eq_true_eq, Bool.not_eq_true'] at h
        obtain ⟨⟨⟨⟨rfl, h1⟩, h2⟩, h3⟩, h4⟩ := h
        cases es with
        | nil => cases h2
        | cons e es => exact g_bi O h1 h3 (H.es f (e :: es) cs h3 h4)
      · cases h
    | isi t a =>
      simp only [ckE] at h
      split at h
      · rename_i y e z hy
        obtain ⟨p, q, rfl⟩ := asCallN_eq hy
        simp only [Bool.and_eq_true, decide_eq_true_eq, Bool.not_eq_true'] at h
        obtain ⟨⟨⟨⟨⟨rfl, h1⟩, h2⟩, h3⟩, h4⟩, h5⟩ := h
        obtain ⟨p2, rfl⟩ := asName_eq h2
        exact g_isi O h1 h3 h4 (H.e f e a h5)
      · cases h
    | lrg a =>
      simp only [ckE] at h
      split at h
      · rename_i y e hy
        obtain ⟨p, q, rfl⟩ := asCallN_eq hy
        simp only [Bool.and_eq_true, decide_eq_true_eq] at h
        obtain ⟨⟨rfl, h1⟩, h2⟩ := h
        split at h2
        · rename_i z w hz
          obtain ⟨p2, q2, rfl⟩ := asCallN_eq hz
          simp only [Bool.and_eq_true, decide_eq_true_eq, Bool.not_eq_true'] at h2
          obtain ⟨⟨⟨rfl, h3⟩, h4⟩, h5⟩ := h2
          exact g_lrg O h1 h3 h4 (H.e f w a h5)
        · cases h2
      · cases h
    | met me o cs =>
      simp only [ckE] at h
      split at h
      · rename_i y nm es hy
        obtain ⟨p, q, rfl, hl⟩ := asMeth_eq hy
        simp only [Bool.and_eq_true, decide_eq_true_eq, Bool.not_eq_true'] at h
        obtain ⟨⟨⟨⟨⟨rfl, h1⟩, h2⟩, h3⟩, h4⟩, h5⟩ := h
        exact g_met O h1 h2 h3 hl (H.e f y o h4) (H.es f es cs h2 h5) (fun e => all2_nil h5 e)
      · cases h
    | sub a i =>
      simp only [ckE] at h
      split at h
      · rename_i y z hy
        obtain ⟨p, rfl⟩ := asSubE_eq hy
        simp only [Bool.and_eq_true, Bool.not_eq_true'] at h
        exact g_sub O h.1.1 (H.e f y a h.1.2) (H.e f z i h.2)
      · cases h
    | slc a lo hi =>
      simp only [ckE] at h
      split at h
      · rename_i y z hy
        obtain ⟨p, rfl⟩ := asSubE_eq hy
        split at h
        · rename_i u v hz
          obtain ⟨p2, rfl⟩ := asSlc_eq hz
          simp only [Bool.and_eq_true] at h
          obtain ⟨⟨h1, h2⟩, h3⟩ := h
          obtain ⟨g1, g2⟩ := optOk_some h2
          obtain ⟨g3, g4⟩ := optOk_some h3
          exact g_slc (H.e f y a h1) (fun e z => let ⟨c, q1, q2⟩ := g1 e z; ⟨c, q1, H.e f e c q2⟩) g2 (fun e z => let ⟨c, q1, q2⟩ := g3 e z; ⟨c, q1, H.e f e c q2⟩) g4
        · cases h
      · cases h
    | rev a =>
      simp only [ckE] at h
      split at h
      · rename_i y z hy
        obtain ⟨p, rfl⟩ := asSubE_eq hy
        rw [Bool.and_eq_true] at h
        exact g_rev h.1 (H.e f y a h.2)
      · cases h
    | lc own elt tg it ifs =>
      simp only [ckE] at h
      split at h
      · rename_i y t i ts scp hy
        obtain ⟨p, rfl⟩ := asLC_eq hy
        simp only [Bool.and_eq_true, decide_eq_true_eq, Bool.not_eq_true'] at h
        obtain ⟨⟨⟨⟨⟨⟨⟨h1, h2⟩, h3⟩, h4⟩, h5⟩, h6⟩, h7⟩, h8⟩ := h
        refine g_lc O h1 h4 (H.ci f t i it h3) (fun s Hh Ca cl fp k hk => ct_ok O s Hh cl Ca fp f t tg k h2) (fun s Hh Ca cl fp k hk => ?_) (fun s Hh Ca cl fp k hk => (HB scp s Hh cl Ca fp k hk).e f y elt h8)
        exact tss_ok f h5 h6 h7 k fun j hj => HB scp s Hh cl Ca fp j (by omega)
      · cases h
    | dc own kc vc tg it ifs =>
      simp only [ckE] at h
      split at h
      · rename_i y z t i ts scp hy
        obtain ⟨p, rfl⟩ := asDC_eq hy
        simp only [Bool.and_eq_true, decide_eq_true_eq, Bool.not_eq_true'] at h
        obtain ⟨⟨⟨⟨⟨⟨⟨⟨h1, h2⟩, h3⟩, h4⟩, h5⟩, h6⟩, h7⟩, h8⟩, h9⟩ := h
        refine g_dc O h1 h4 (H.ci f t i it h3) (fun s Hh Ca cl fp k hk => ct_ok O s Hh cl Ca fp f t tg k h2) (fun s Hh Ca cl fp k hk => ?_) (fun s Hh Ca cl fp k hk => (HB scp s Hh cl Ca fp k hk).e f y kc h8) (fun s Hh Ca cl fp k hk => (HB scp s Hh cl Ca fp k hk).e f z vc h9)
        exact tss_ok f h5 h6 h7 k fun j hj => HB scp s Hh cl Ca fp j (by omega)
      · cases h
    | dnk =>
      simp only [ckE] at h
      split at h
      · rename_i hy
        obtain ⟨p, rfl⟩ := asDict_eq hy
        exact g_dnk
      · cases h
    | dnt =>
      simp only [ckE] at h
      split at h
      · rename_i hy
        obtain ⟨p, rfl⟩ := asDict_eq hy
        exact g_dnt
      · cases h
    | dsk ks cs =>
      simp only [ckE] at h
      split at h
      · rename_i kx vs hy
        obtain ⟨p, rfl⟩ := asDict_eq hy
        simp only [Bool.and_eq_true, decide_eq_true_eq, Bool.not_eq_true'] at h
        obtain ⟨⟨⟨⟨h1, h2⟩, h3⟩, h4⟩, h5⟩ := h
        by_cases hf : ks.length = cs.length ∧ ks.length < n
        · refine g_dsk (pps_ok C sc f n kx vs ks cs Hlt h4 h5 hf.1 hf.2) (keyOk_all h4) ?_ (fun z => by rw [z] at h1; cases h1) ?_ hf.1 h2
          · rw [all2_len h4, all2_len h5]; exact hf.1
          · rw [all2_len h4]; exact h3
        · refine ⟨fun _ _ _ _ _ _ ⟨_, _, _, _, _, _, e, _⟩ => (hf ?_).elim⟩
          simp only [evs, step, stepE] at e
          obtain ⟨p1, e1, e⟩ := bnd e
          have hl := es_fuel _ _ _ _ _ e1
          split at e
          · rename_i hc
            rw [Bool.and_eq_true, decide_eq_true_eq, decide_eq_true_eq] at hc
            have : p1.1.length = cs.length := es_len _ _ _ _ _ e1
            omega
          · cases e
      · cases h
    | dst1 k v =>
      simp only [ckE] at h
      split at h
      · rename_i y z hy
        obtain ⟨p, rfl⟩ := asDict_eq hy
        rw [Bool.and_eq_true] at h
        exact g_dst1 O (H.e f y k h.1) (H.e f z v h.2)
      · cases h
    | calk _ _ _ => simp [ckE] at h
theorem step_t (O : Cok X C sc l) (H : Hyp T X C sc l n) (Hlt : ∀ j, j < n → Hyp T X C sc l j) (f g : Nat) (x : Expr) (c : CE) (h : ckE C f sc x c = true) (ht : tokC g c = true) : PT X x (rT T X.K (n + 1) l c) := by
  cases f with
  | zero => simp [ckE] at h
  | succ f =>
    cases g with
    | zero => simp [tokC] at ht
    | succ g =>
      cases hp : plainC c
      · cases c with
        | neg a => simp [tokC] at ht
        | ite a b c => simp [tokC] at ht
        | not_ a =>
          simp only [ckE] at h
          split at h
          · rename_i y hy
            obtain ⟨p, rfl⟩ := asNot_eq hy
            simp only [tokC] at ht
            exact g_not (H.t f g y a h ht)
          · cases h
        | and_ cs =>
          simp only [ckE] at h
          split at h
          · rename_i es hy
            obtain ⟨p, rfl⟩ := asAnd_eq hy
            simp only [tokC] at ht
            exact (step_wa H f g es cs p h ht).pt
          · cases h
        | or_ cs =>
          simp only [ckE] at h
          split at h
          · rename_i es hy
            obtain ⟨p, rfl⟩ := asOr_eq hy
            simp only [tokC] at ht
            exact (step_wo H f g es cs p h ht).pt
          · cases h
        | cmp op a b =>
          cases n with
          | zero => exact ⟨fun _ _ _ _ _ _ ⟨_, _, _, _, _, _, e, _⟩ => by simp [evs, step] at e⟩
          | succ n =>
            have H' := Hlt n (Nat.lt_succ_self _)
            simp only [ckE] at h
            split at h
            · rename_i y o z hy
              obtain ⟨p, rfl⟩ := asCmp_eq hy
              simp only [Bool.and_eq_true, decide_eq_true_eq, Bool.not_eq_true'] at h
              obtain ⟨⟨⟨rfl, h0⟩, h1⟩, h2⟩ := h
              exact t_cmp O h0 (H'.e f y a h1) (H'.e f z b h2)
            · cases h
        | chn o1 o2 a b d =>
          cases n with
          | zero => exact ⟨fun _ _ _ _ _ _ ⟨_, _, _, _, _, _, e, _⟩ => by simp [evs, step] at e⟩
          | succ n =>
            have H' := Hlt n (Nat.lt_succ_self _)
            simp only [ckE] at h
            split at h
            · rename_i y o o' z w hy
              obtain ⟨p, rfl⟩ := asCmp_eq hy
              simp only [Bool.and_eq_true, decide_eq_true_eq, Bool.not_eq_true'] at h
              obtain ⟨⟨⟨⟨⟨rfl, rfl⟩, h0⟩, h1⟩, h2⟩, h3⟩ := h
              exact t_chn O h0 (H'.e f y a h1) (H'.e f z b h2) (H'.e f w d h3)
            · cases h
        | calk _ _ _ => simp [ckE] at h
        | _ => simp [plainC] at hp
      · exact t_val (plain_of h hp) (H.e (f + 1) x c h) (fun r sg h => by cases c <;> first | rfl | simp [plainC] at hp)
end
theorem hyp {T : Tab} : ∀ (n : Nat) (X : Cx) (C : Ck) (sc : Scope) (l : Nat), Cok X C sc l → (∀ j, j < n → FnsG T X.prog X.w X.K X.mg X.base C.fm j) → Hyp T X C sc l n := by
  intro n
  induction n using Nat.strongRecOn with
  | ind n ih =>
    intro X C sc l O Fs
    cases n with
    | zero => exact hyp0
    | succ n =>
      have H : Hyp T X C sc l n := ih n (Nat.lt_succ_self _) X C sc l O fun j hj => Fs j (by omega)
      have Hlt : ∀ j, j < n → Hyp T X C sc l j := fun j hj => ih j (by omega) X C sc l O fun i hi => Fs i (by omega)
      exact ⟨step_e O (Fs n (Nat.lt_succ_self _)) H Hlt fun scp s Hh cl Ca fp j hj => ih j (by omega) _ C (relS scp sc) l (O.blk s Hh cl Ca fp) fun i hi => Fs i (by omega),
        step_t O H Hlt, step_wa H, step_wo H, step_es H, step_sp H, step_ci O H⟩
end Ez

/-! E5a: targets, statements -/
namespace Ez
open PySem PySem.Spec PyProof.Rows L2
structure Fok (X : Cx) : Prop where
  fn : ∀ x, X.fn x = true
  kd : X.env.scope.kind = .function
section
variable {T : Tab} {X : Cx} {C : Ck} {sc : Scope} {n l : Nat}
theorem gt_nm (O : Cok X C sc l) (F : Fok X) {i : Nat} {x : Str} {p : Pos} (hi : C.N[i]? = some x) (hx : isLoc sc x = true) : PG X (.Name x p) (rG T X.K (n + 1) l (.nm i)) := by
  refine PG.imp (pg_name (by rw [O.hN]; exact O.nd) (by rw [O.hN]; exact hi) (O.loc hx) (.inl (F.fn x))) fun v σ H Q ⟨m, h, sg, d, p, R, S, r, e, P⟩ => ?_
  simp only [evs, step, Option.some.injEq] at e
  subst e
  exact P m H _ Ext.refl R (S.set r)
theorem gt_nil : PGs X [] (rGs T X.K (n + 1) l []) := by
  refine PGs.imp pgs_nil fun v σ H Q ⟨m, h, sg, ds, p, R, S, r, e, P⟩ => ?_
  cases ds with
  | nil =>
    simp only [evs, step, Option.some.injEq] at e
    subst e
    exact ⟨r, P m H σ Ext.refl R S⟩
  | cons d ds => cases e
theorem gt_cons {e : Expr} {es : List Expr} {g : TG} {gs : List TG} (hs : isStar e = false) (h1 : PG X e (rG T X.K n l g)) (h2 : PGs X es (rGs T X.K n l gs)) : PGs X (e :: es) (rGs T X.K (n + 1) l (g :: gs)) := by
  refine PGs.imp (pgs_cons h1 h2 (by rw [asg_cons hs]; rfl)) fun v σ H Q ⟨m, h, sg, ds, p, R, S, r, e, P⟩ => ?_
  cases ds with
  | nil => cases e
  | cons d ds =>
    simp only [evs, step] at e
    obtain ⟨p1, e1, e⟩ := bnd e
    simp only [Rls] at r
    obtain ⟨v1, t, rfl, r1, r2⟩ := r
    exact ⟨v1, t, rfl, m, h, sg, d, p1, R, S, r1, e1, fun m1 H1 σ1 x1 R1 S1 => ⟨m1, p1.2, p1.1, ds, p, R1, S1, x1.rls R r2, e, P.after R1 x1⟩⟩
theorem gt_tu (O : Cok X C sc l) {es : List Expr} {gs : List TG} {k : Nat} {p : Pos} (hs : noStars es = true) (hl : gs.length = es.length) (h : PGs X es (rGs T X.K n l gs)) : PG X (.Tuple es k p) (rG T X.K (n + 1) l (.tu gs)) := by
  refine PG.imp (pg_tup O.calm h (asg_len hs).1 (asg_len hs).2) fun v σ H Q ⟨m, h, sg, d, p, R, S, r, e, P⟩ => ?_
  simp only [evs, step] at e
  cases d with
  | tup xs =>
    simp only at e
    split at e
    · rename_i hx
      simp only [Rl] at r
      obtain ⟨a, vs, rfl, q, rs⟩ := r
      exact ⟨a, vs, rfl, q.sq, by rw [rs.length, hx, hl], m, h, sg, xs, p, R, S, rs, e, P⟩
    · cases e
  | ptp xs =>
    simp only at e
    split at e
    · rename_i hx
      simp only [Rl] at r
      obtain ⟨a, vs, rfl, q, rs⟩ := r
      exact ⟨a, vs, rfl, SqT.of q, by rw [rs.length, hx, hl], m, h, sg, xs, p, R, S, rs, e, P⟩
    · cases e
  | _ => cases e
theorem gt_sb (O : Cok X C sc l) {o i : CE} {x y : Expr} {pos : Pos} (hs : isSlice y = false) (ho : PE X x (rE T X.K n l o)) (hi : PE X y (rE T X.K n l i)) : PG X (.Subscript x y pos) (rG T X.K (n + 1) l (.sb o i)) := by
  refine PG.imp (pg_sub ho hi (ps_store O.u1) (by intro v; cases y <;> first | rfl | simp [isSlice] at hs)) fun v σ H Q ⟨m, h, sg, d, p, R, S, r, e, P⟩ => ?_
  simp only [evs, step] at e
  obtain ⟨p1, e1, e⟩ := bnd e
  obtain ⟨p2, e2, e⟩ := bnd e
  obtain ⟨h3, e3, e⟩ := bnd e
  cases e
  refine ⟨m, h, sg, p1, R, S, e1, fun m1 H1 u1 x1 R1 r1 => ⟨m1, p1.2, sg, p2, R1, x1.sr R S, e2, fun m2 H2 u2 x2 R2 r2 => ?_⟩⟩
  exact store_ok' e3 R2 (x2.rl R1 r1) r2 (x2.rl R1 (x1.rl R r)) fun H3 x3 R3 => ((P.after R1 x1).after R2 x2) m2 H3 σ x3 R3 (x3.sr R2 (x2.sr R1 (x1.sr R S)))
theorem rG0 {e : Expr} {g : TG} : PG X e (rG T X.K 0 l g) := ⟨fun _ _ _ _ _ _ _ _ _ ⟨_, _, _, _, _, _, _, _, e, _⟩ => by cases e⟩
theorem rGs0 {e : List Expr} {g : List TG} : PGs X e (rGs T X.K 0 l g) := ⟨fun _ _ _ _ _ _ _ _ _ ⟨_, _, _, _, _, _, _, _, e, _⟩ => by cases e⟩
theorem rS0 {e : Stmt} {c : CS} : PS X e (rS T X.K 0 l c) := ⟨fun _ _ _ _ _ _ ⟨_, _, _, _, _, _, e, _⟩ => by cases e⟩
theorem rSs0 {e : List Stmt} {c : List CS} : PSs X e (rSs T X.K 0 l c) := ⟨fun _ _ _ _ _ _ ⟨_, _, _, _, _, _, e, _⟩ => by cases e⟩
theorem gts_ok (f : Nat) : ∀ (k : Nat) (xs : List Expr) (gs : List TG), (∀ j, j < k → ∀ (x : Expr) (g : TG), ckG C f sc x g = true → PG X x (rG T X.K j l g)) → noStars xs = true → all2 (ckG C f sc) xs gs = true → PGs X xs (rGs T X.K k l gs)
  | 0, _, _, _, _, _ => rGs0
  | k + 1, [], gs, _, _, h => by
    cases all2_nil h rfl
    exact gt_nil
  | k + 1, x :: xs, [], _, _, h => by cases h
  | k + 1, x :: xs, g :: gs, IH, hs, h => by
    unfold noStars at hs
    rw [List.all_cons, Bool.and_eq_true, Bool.not_eq_true'] at hs
    simp only [all2, Bool.and_eq_true] at h
    exact gt_cons hs.1 (IH k (Nat.lt_succ_self _) x g h.1) (gts_ok f k xs gs (fun j hj => IH j (by omega)) hs.2 h.2)
theorem gt_ok (O : Cok X C sc l) (F : Fok X) : ∀ (f k : Nat) (x : Expr) (g : TG), (∀ j, j < k → Hyp T X C sc l j) → ckG C f sc x g = true → PG X x (rG T X.K k l g)
  | 0, _, _, _, _, h => by cases h
  | f + 1, 0, _, _, _, _ => rG0
  | f + 1, k + 1, x, g, IH, h => by
    unfold ckG at h
    cases g with
    | nm i =>
      simp only at h
      split at h
      · rename_i y hy
        obtain ⟨p, rfl⟩ := asName_eq hy
        rw [Bool.and_eq_true, decide_eq_true_eq] at h
        exact gt_nm O F h.1 h.2
      · cases h
    | tu gs =>
      simp only at h
      split at h
      · rename_i es hx
        obtain ⟨kk, p, rfl⟩ := asTupE_eq hx
        rw [Bool.and_eq_true] at h
        exact gt_tu O h.1 (all2_len h.2).symm (gts_ok f k es gs (fun j hj y g' hg => gt_ok O F f j y g' (fun i hi => IH i (by omega)) hg) h.1 h.2)
      · cases h
    | sb o i =>
      simp only at h
      split at h
      · rename_i y z hx
        obtain ⟨p, rfl⟩ := asSubE_eq hx
        simp only [Bool.and_eq_true, Bool.not_eq_true'] at h
        exact gt_sb O h.1.1 ((IH k (Nat.lt_succ_self _)).e f y o h.1.2) ((IH k (Nat.lt_succ_self _)).e f z i h.2)
      · cases h
/-! ### simple statements -/
theorem sw_no {e : Expr} {t : Option Expr} {k : Nat} {env : Env} (h : isComp e = false) : swapsWith e t k env = pure false := by
  cases e <;> first | rfl | simp [isComp] at h
theorem st_ex {a : CE} {e : Expr} {p : Pos} (hc : isComp e = false) (he : PE X e (rE T X.K n l a)) : PS X (.Expr e p) (rS T X.K (n + 1) l (.ex a)) := by
  refine PS.imp (ps_expr he (sw_no hc)) fun D σ H ⟨m, h, sg, q, R, S, e, P⟩ => ?_
  simp only [evs, step] at e
  obtain ⟨p1, e1, e⟩ := bnd e
  cases e
  exact ⟨m, h, sg, p1, R, S, e1, fun m1 H1 v x1 R1 r1 => P m1 H1 x1 R1 σ (x1.sr R S)⟩
theorem st_ret {a : CE} {e : Expr} {p : Pos} (he : PE X e (rE T X.K n l a)) : PS X (.Return (some e) p) (rS T X.K (n + 1) l (.ret a)) := by
  refine PS.imp (ps_ret he) fun D σ H ⟨m, h, sg, q, R, S, e, P⟩ => ?_
  simp only [evs, step] at e
  obtain ⟨p1, e1, e⟩ := bnd e
  cases e
  exact ⟨m, h, sg, p1, R, S, e1, fun m1 H1 v x1 R1 r1 => P m1 H1 x1 R1 v r1⟩
theorem st_retN {p : Pos} : PS X (.Return none p) (rS T X.K (n + 1) l .retN) := by
  refine PS.imp ps_retN fun D σ H ⟨m, h, sg, q, R, S, e, P⟩ => ?_
  simp only [evs, step, Option.some.injEq] at e
  subst e
  exact P m H Ext.refl R .non rfl
theorem st_pas {p : Pos} : PS X (.Pass p) (rS T X.K (n + 1) l .pas) := by
  refine PS.imp ps_pass fun D σ H ⟨m, h, sg, q, R, S, e, P⟩ => ?_
  simp only [evs, step, Option.some.injEq] at e
  subst e
  exact P m H Ext.refl R σ S
theorem st_brk {p : Pos} : PS X (.Break p) (rS T X.K (n + 1) l .brk) := by
  refine PS.imp ps_break fun D σ H ⟨m, h, sg, q, R, S, e, P⟩ => ?_
  simp only [evs, step, Option.some.injEq] at e
  subst e
  exact P m H Ext.refl R σ S
theorem st_cnt {p : Pos} : PS X (.Continue p) (rS T X.K (n + 1) l .cnt) := by
  refine PS.imp ps_continue fun D σ H ⟨m, h, sg, q, R, S, e, P⟩ => ?_
  simp only [evs, step, Option.some.injEq] at e
  subst e
  exact P m H Ext.refl R σ S
theorem st_nev {st : Stmt} : PS X st (rS T X.K (n + 1) l .nev) := ⟨fun _ _ _ _ _ _ ⟨_, _, _, _, _, _, e, _⟩ => by simp [evs, step] at e⟩
theorem st_ife {t : CE} {a b : List CS} {x : Expr} {y z : List Stmt} {p : Pos} (ht : PT X x (rT T X.K n l t)) (ha : PSs X y (rSs T X.K n l a)) (hb : PSs X z (rSs T X.K n l b)) : PS X (.If x y z p) (rS T X.K (n + 1) l (.ife t a b)) := by
  refine PS.imp (ps_if ht ha hb) fun D σ H ⟨m, h, sg, q, R, S, e, P⟩ => ?_
  simp only [evs, step] at e
  obtain ⟨p1, e1, e⟩ := bnd e
  refine ⟨m, h, sg, p1, R, S, e1, fun m1 H1 x1 R1 => ?_⟩
  split at e
  · rename_i hb
    rw [if_pos hb]
    exact ⟨m1, p1.2, sg, q, R1, x1.sr R S, e, P.after R1 x1⟩
  · rename_i hb
    rw [if_neg hb]
    exact ⟨m1, p1.2, sg, q, R1, x1.sr R S, e, P.after R1 x1⟩
theorem st_nil : PSs X [] (rSs T X.K (n + 1) l []) := by
  refine PSs.imp pss_nil fun D σ H ⟨m, h, sg, q, R, S, e, P⟩ => ?_
  simp only [evs, step, Option.some.injEq] at e
  subst e
  exact P m H Ext.refl R σ S
theorem st_cons {c : CS} {cs : List CS} {s : Stmt} {ss : List Stmt} (h1 : PS X s (rS T X.K n l c)) (h2 : PSs X ss (rSs T X.K n l cs)) : PSs X (s :: ss) (rSs T X.K (n + 1) l (c :: cs)) := by
  refine PSs.imp (pss_cons h1 h2) fun D σ H ⟨m, h, sg, q, R, S, e, P⟩ => ?_
  simp only [evs, step] at e
  obtain ⟨p1, e1, e⟩ := bnd e
  refine ⟨m, h, sg, p1, R, S, e1, fun m1 H1 x1 R1 => ?_⟩
  obtain ⟨fl, sg1, h1⟩ := p1
  cases fl with
  | nx => exact fun σ1 S1 => ⟨m1, h1, sg1, q, R1, S1, e, P.after R1 x1⟩
  | bk => cases e; exact P m1 H1 x1 R1
  | ct => cases e; exact P m1 H1 x1 R1
  | rt d => cases e; exact P m1 H1 x1 R1
theorem st_aug (O : Cok X C sc l) (F : Fok X) {i : Nat} {a : CE} {x : Str} {e : Expr} {p q : Pos} (hi : C.N[i]? = some x) (hx : isLoc sc x = true) (he : PE X e (rE T X.K n l a)) : PS X (.AugAssign (.Name x p) .Add e q) (rS T X.K (n + 1) l (.aug i .add a)) := by
  refine PS.imp (ps_aug (by rw [O.hN]; exact O.nd) (by rw [O.hN]; exact hi) (O.loc hx) he ip_add (.inl (F.fn x))) fun D σ H ⟨m, h, sg, q, R, S, e, P⟩ => ?_
  obtain ⟨d, e0, p1, e1, e⟩ : ∃ d, sg[i]? = some (some d) ∧ ∃ p1, evs T n .e (l, a, sg, h) = some p1 ∧ (match d, p1.1 with
      | .int a, .int b => (binop .add (.int a) (.int b) p1.2).bind fun q => some (Fl.nx, sg.set i (some q.1), p1.2)
      | _, _ => none) = some q := by
    simp only [evs, step] at e
    cases hs : sg[i]? with
    | none => rw [hs] at e; cases e
    | some o =>
      rw [hs] at e
      cases o with
      | none => cases e
      | some d =>
        have e : (evs T n .e (l, a, sg, h)).bind _ = some q := e
        obtain ⟨p1, e1, e⟩ := bnd e
        exact ⟨d, rfl, p1, e1, e⟩
  obtain ⟨v, hv, rv⟩ := S.at_ i d e0
  refine ⟨v, hv, m, h, sg, p1, R, S, e1, fun m1 H1 u x1 R1 r1 => ?_⟩
  obtain ⟨d1, h1⟩ := p1
  cases d with
  | int a =>
    cases d1 with
    | int b =>
      simp only at e
      obtain ⟨q1, e2, e⟩ := bnd e
      simp only [binop, Option.some.injEq] at e2
      subst e2
      cases e
      simp only [Rl] at rv r1
      subst rv r1
      exact ⟨a, b, rfl, rfl, P m1 H1 x1 R1 _ ((x1.sr R S).set rfl)⟩
    | _ => cases e
  | _ => cases e
end
end Ez

/-! E5b: assignments, loops -/
namespace Ez
open PySem PySem.Spec PyProof.Rows L2
section
variable {T : Tab} {X : Cx} {C : Ck} {sc scp : Scope} {n l : Nat} {own : List Nat}
/-! ### loops -/
theorem st_whl (O : Cok X C sc l) {t : CE} {b : List CS} {x : Expr} {y : List Stmt} {p : Pos} (ht : ∀ k, k ≤ n → PT X x (rT T X.K k l t)) (hb : ∀ k, k ≤ n → PSs X y (rSs T X.K k l b)) : PS X (.While x y [] p) (rS T X.K (n + 1) l (.whl t b)) := by
  refine PS.imp (ps_while O.own (PT.any ht) (PSs.any hb)) fun D σ H ⟨m, h, sg, q, R, S, e, P⟩ => ?_
  simp only [evs, step] at e
  refine ⟨fun k σ' H' => k ≤ n ∧ ∃ m' h' sg', Hr X.K m' h' H' ∧ Sr X.K m' H' sg' σ' ∧ Ext m m' H H' ∧ evs T k .wh (l, t, b, sg', h') = some q, ⟨n, Nat.le_refl _, m, h, sg, R, S, Ext.refl, e⟩, ?_⟩
  rintro k σ' H' ⟨hk, m', h', sg', R', S', x', e'⟩
  cases k with
  | zero => cases e'
  | succ k =>
    simp only [evs, step] at e'
    obtain ⟨p1, e1, e'⟩ := bnd e'
    refine ⟨k, by omega, m', h', sg', p1, R', S', e1, fun m1 H1 x1 R1 => ?_⟩
    dsimp only
    split at e'
    · rename_i hb'
      rw [if_pos hb']
      obtain ⟨p2, e2, e'⟩ := bnd e'
      refine ⟨_, fun σ2 H2 w => ⟨k, Nat.lt_succ_self _, w⟩, k, by omega, m1, p1.2, sg', p2, R1, x1.sr R' S', e2, fun m2 H2 x2 R2 => ?_⟩
      have x3 := (x'.trans R' x1).trans R1 x2
      obtain ⟨fl, sg2, h2⟩ := p2
      cases fl with
      | nx => exact fun σ2 S2 => ⟨by omega, m2, h2, sg2, R2, S2, x3, e'⟩
      | ct => exact fun σ2 S2 => ⟨by omega, m2, h2, sg2, R2, S2, x3, e'⟩
      | bk => cases e'; exact P m2 H2 x3 R2
      | rt d => cases e'; exact P m2 H2 x3 R2
    · rename_i hb'
      rw [if_neg hb']
      cases e'
      exact P m1 H1 (x'.trans R' x1) R1 σ' (x1.sr R' S')
theorem st_for (O : Cok X C sc l) {g : TG} {it : CI} {b : List CS} {t i : Expr} {y : List Stmt} {p : Pos} (hs : isSet i = false) (hi : PI X t i (rCi T X.K n l it)) (hg : ∀ k, k ≤ n → PG X t (rG T X.K k l g)) (hb : ∀ k, k ≤ n → PSs X y (rSs T X.K k l b)) :
    PS X (.For t i y [] p) (rS T X.K (n + 1) l (.for_ g it b)) := by
  refine PS.imp (ps_for O.own O.calm hi (PG.any hg) (PSs.any hb) (fold_no hs)) fun D σ H ⟨m, h, sg, q, R, S, e, P⟩ => ?_
  simp only [evs, step] at e
  obtain ⟨p1, e1, e⟩ := bnd e
  refine ⟨m, h, sg, p1, R, S, e1, fun m1 H1 J x1 R1 S1 => ?_⟩
  refine ⟨fun i k σ' H' => k ≤ n ∧ ∃ m' h' sg' src, Hr X.K m' h' H' ∧ Sr X.K m' H' sg' σ' ∧ SrcR X.K m' H' src J i ∧ Ext m m' H H' ∧ evs T k .fo (l, g, b, src, sg', h') = some q, ⟨n, Nat.le_refl _, m1, p1.2, sg, p1.1, R1, x1.sr R S, S1, x1, e⟩, ?_⟩
  rintro j k σ' H' ⟨hk, m', h', sg', src, R', S', Q', x', e'⟩
  cases k with
  | zero => cases e'
  | succ k =>
    simp only [evs, step] at e'
    obtain ⟨o, f1, e'⟩ := bnd e'
    cases o with
    | none =>
      cases e'
      exact .inl ⟨Q'.stop R' f1, P m' H' x' R' σ' S'⟩
    | some z =>
      obtain ⟨p2, e2, e'⟩ := bnd e'
      obtain ⟨p3, e3, e'⟩ := bnd e'
      have nx := Q'.next (x := z.1) (src' := z.2) R' f1
      refine .inr ⟨nx.go, _, fun σ2 H2 w => ⟨k, Nat.lt_succ_self _, w⟩, fun v H2 y => ?_⟩
      obtain ⟨y1, y2, y3, y4⟩ := nx.yld v H2 y
      refine ⟨k, by omega, m', h', sg', z.1, p2, y2, y1.sr R' S', y3, e2, fun m3 H3 σ3 x3 R3 S3 => ⟨k, by omega, m3, p2.2, p2.1, p3, R3, S3, e3, fun m4 H4 x4 R4 => ?_⟩⟩
      have x5 := ((x'.trans R' y1).trans y2 x3).trans R3 x4
      have s5 := (y4.mono y2 x3).mono R3 x4
      obtain ⟨fl, sg4, h4⟩ := p3
      cases fl with
      | nx => exact fun σ2 S2 => ⟨by omega, m4, h4, sg4, z.2, R4, S2, s5, x5, e'⟩
      | ct => exact fun σ2 S2 => ⟨by omega, m4, h4, sg4, z.2, R4, S2, s5, x5, e'⟩
      | bk => cases e'; exact P m4 H4 x5 R4
      | rt d => cases e'; exact P m4 H4 x5 R4
/-! ### assignments -/
theorem asg_red {g : TG} {a : CE} {σ : L2.St} {H : Hp} {K : Fg} {D : Ends} (hh : rS T K (n + 1) l (.asg g a) D σ H) : ∃ m h sg p1 p2, Hr K m h H ∧ Sr K m H sg σ ∧ evs T n .e (l, a, sg, h) = some p1 ∧ evs T n .g (l, g, p1.1, sg, p1.2) = some p2 ∧ Fin K m H (.nx, p2.1, p2.2) D := by
  obtain ⟨m, h, sg, q, R, S, e, P⟩ := hh
  simp only [evs, step] at e
  obtain ⟨p1, e1, e⟩ := bnd e
  obtain ⟨p2, e2, e⟩ := bnd e
  cases e
  exact ⟨m, h, sg, p1, p2, R, S, e1, e2, P⟩
theorem st_asg {g : TG} {a : CE} {t e : Expr} {p : Pos} (hs : isStar t = false) (hc : ∀ k env, swapsWithSole [t] e k env = pure false) (hw : ∀ env, swappedStores [t] e env = pure none) (he : PE X e (rE T X.K n l a)) (hg : PG X t (rG T X.K n l g)) : PS X (.Assign [t] e p) (rS T X.K (n + 1) l (.asg g a)) := by
  refine PS.imp (ps_asg he hg (hc _ _) (hw _) (by rw [asg_cons hs]; rfl)) fun D σ H hh => ?_
  obtain ⟨m, h, sg, p1, p2, R, S, e1, e2, P⟩ := asg_red hh
  exact ⟨m, h, sg, p1, R, S, e1, fun m1 H1 v x1 R1 r1 => ⟨m1, p1.2, sg, p1.1, p2, R1, x1.sr R S, r1, e2, fun m2 H2 σ2 x2 R2 S2 => P m2 H2 (x1.trans R1 x2) R2 σ2 S2⟩⟩
/-- name = a comprehension that stores as any value -/
theorem st_asgN (O : Cok X C sc l) (F : Fok X) {i : Nat} {a : CE} {y : Str} {py p : Pos} {e : Expr} (hi : C.N[i]? = some y) (hx : isLoc sc y = true) (hsw : swapsWith e (some (.Name y py)) p.line X.env = pure false) (he : PE X e (rE T X.K n l a)) :
    PS X (.Assign [.Name y py] e p) (rS T X.K (n + 1) l (.asg (.nm i) a)) := by
  refine PS.imp (ps_set (by rw [O.hN]; exact O.nd) (by rw [O.hN]; exact hi) (O.loc hx) he hsw (.inl (F.fn y))) fun D σ H hh => ?_
  obtain ⟨m, h, sg, p1, p2, R, S, e1, e2, P⟩ := asg_red hh
  cases n with
  | zero => cases e2
  | succ n =>
    simp only [evs, step, Option.some.injEq] at e2
    subst e2
    exact ⟨m, h, sg, p1, R, S, e1, fun m1 H1 v x1 R1 r1 => P m1 H1 x1 R1 _ ((x1.sr R S).set r1)⟩
/-- name = [..] in its own frame -/
theorem st_setLc (O : Cok X C sc l) (F : Fok X) {iy : Nat} {y : Str} {py p pos : Pos} {elt : CE} {tg : TG} {it : CI} {ifs : List CE} {x t i : Expr} {ts : List Expr} (hi : C.N[iy]? = some y) (hl : sc.names.lookup y = some .local)
    (hsw : swapsWith (.ListComp x [⟨t, i, ts, 0⟩] scp pos) (some (.Name y py)) p.line X.env = pure true) (hb : blkC C.N sc scp (ownOf C own) = true) (hset : isSet i = false) (hci : PI X t i (rCi T X.K n l it))
    (hg : ∀ (s : Shared) (H : Hp) (Ca : Addr) (cl : List (Str × Addr)) (fp : List Addr) (k : Nat), k ≤ n → PG (X.blk s H scp (compEnvC scp cl Ca X.env) fp) t (rC T X.K own k l tg))
    (ht : ∀ (s : Shared) (H : Hp) (Ca : Addr) (cl : List (Str × Addr)) (fp : List Addr) (k : Nat), k ≤ n → PTs (X.blk s H scp (compEnvC scp cl Ca X.env) fp) ts (rTs T X.K k l ifs))
    (he : ∀ (s : Shared) (H : Hp) (Ca : Addr) (cl : List (Str × Addr)) (fp : List Addr) (k : Nat), k ≤ n → PE (X.blk s H scp (compEnvC scp cl Ca X.env) fp) x (rE T X.K k l elt)) :
    PS X (.Assign [.Name y py] (.ListComp x [⟨t, i, ts, 0⟩] scp pos) p) (rS T X.K (n + 2) l (.asg (.nm iy) (.lc own elt tg it ifs))) := by
  have ok : BlkOk X.N X.env.scope scp (ownOf C own) := by rw [O.hN, O.hsc]; exact blkOk_by hb
  have := ps_setLc (i := iy) (spos := p) O.calm (by rw [O.hN]; exact O.nd) (by rw [O.hN]; exact hi) (by rw [O.hsc]; exact hl) hsw hci ok (fun s H Ca cl fp => PG.any (hg s H Ca cl fp)) (fun s H Ca cl fp => PTs.any (ht s H Ca cl fp)) (fun s H Ca cl fp => PE.any (he s H Ca cl fp)) (fold_no hset)
  rw [own_snd] at this
  refine PS.imp this fun D σ H hh => ?_
  obtain ⟨m, h, sg, p1, p2, R, S, e1, e2, P⟩ := asg_red hh
  simp only [evs, step, Option.some.injEq] at e2
  subst e2
  exact lc_ok ⟨m, h, sg, p1, R, S, e1, fun m1 H1 v x1 R1 r1 => P m1 H1 x1 R1 _ ((x1.sr R S).set r1)⟩
theorem ps_setDc {i : Nat} {y : Str} {py : Pos} {kx vx tg iter : Expr} {ifs : List Expr} {scope : Scope} {own : List (Str × Nat)} {pos spos : Pos} {wi : TI} {g : L2.TG} {tt : TT} {tk tv : TE} (hc : X.calm = true) (hN : X.N.Nodup) (hy : X.N[i]? = some y) (hyl : X.env.scope.names.lookup y = some .local)
    (hsw : swapsWith (.DictComp kx vx [⟨tg, iter, ifs, 0⟩] scope pos) (some (.Name y py)) spos.line X.env = pure true) (hi : PI X tg iter wi) (ok : BlkOk X.N X.env.scope scope own)
    (hg : ∀ (s : Shared) (H : Hp) (C : Addr) (cl : List (Str × Addr)) (fp : List Addr), PG (X.blk s H scope (compEnvC scope cl C X.env) fp) tg g) (ht : ∀ (s : Shared) (H : Hp) (C : Addr) (cl : List (Str × Addr)) (fp : List Addr), PTs (X.blk s H scope (compEnvC scope cl C X.env) fp) ifs tt)
    (hk : ∀ (s : Shared) (H : Hp) (C : Addr) (cl : List (Str × Addr)) (fp : List Addr), PE (X.blk s H scope (compEnvC scope cl C X.env) fp) kx tk)
    (he : ∀ (s : Shared) (H : Hp) (C : Addr) (cl : List (Str × Addr)) (fp : List Addr), PE (X.blk s H scope (compEnvC scope cl C X.env) fp) vx tv) (hs : ∀ x, foldedSetIterable iter X.env x = pure x) :
    PS X (.Assign [.Name y py] (.DictComp kx vx [⟨tg, iter, ifs, 0⟩] scope pos) spos) (tAsg (tDc wi g tt tk tv (own.map (·.2))) (gName i)) := by
  refine ⟨fun pins s σ H D I h => ?_⟩
  rw [exec_Assign_Name_used _ _ _ _ hsw]
  refine wpAny_bind (wpAny_standAt (wpAny_bind ?_))
  show wpAny _ X.A (do let _ ← comprehension (.DictComp kx vx [⟨tg, iter, ifs, 0⟩] scope pos) scope X.env (firstIterPos [⟨tg, iter, ifs, 0⟩] pos) newDict false (eval iter X.env) (some (assign (.Name y py) X.env))) _ _ s
  have h : tDc wi g tt tk tv (own.map (·.2)) σ H (fun x H1 => gName i x σ H1 D.nx) := h
  refine wpAny_bind (thn (dc_core (Qf := fun _ s' => SP X pins D .next s') hc hN I hi ok hg ht hk he hs h fun L C s' m H' I' q hn f => ?_) fun _ s' hq => wpAny_pure (wpAny_pure hq))
  show wpAny _ _ (assign (.Name y py) X.env (.ref L)) _ _ _
  refine wpAny_assign_Name (store_ok2 (v := V.ref L) I' hN hy (.inl hyl) rfl (fun s2 I2 ⟨a, sb, ha⟩ => ?_) (.inr hyl))
  obtain ⟨f0, f1, f2, f3, f4, f5⟩ := f
  have haC : C ≠ a := by
    rcases ha with z | z
    · rw [z]; exact f1
    · exact fun e => f4 y a z e.symm
  refine ⟨m, hn.sameBut sb haC, fun h3 sb3 => ?_⟩
  exact ⟨_, H', I2.turned (t' := s2.toks) (fun b o hb e => (sb3.2 b hb).trans e) f0 f1 f3 f4 f5, q⟩
theorem st_setDc (O : Cok X C sc l) (F : Fok X) {iy : Nat} {y : Str} {py p pos : Pos} {kc vc : CE} {tg : TG} {it : CI} {ifs : List CE} {x z t i : Expr} {ts : List Expr} (hi : C.N[iy]? = some y) (hl : sc.names.lookup y = some .local)
    (hsw : swapsWith (.DictComp x z [⟨t, i, ts, 0⟩] scp pos) (some (.Name y py)) p.line X.env = pure true) (hb : blkC C.N sc scp (ownOf C own) = true) (hset : isSet i = false) (hci : PI X t i (rCi T X.K n l it))
    (hg : ∀ (s : Shared) (H : Hp) (Ca : Addr) (cl : List (Str × Addr)) (fp : List Addr) (k : Nat), k ≤ n → PG (X.blk s H scp (compEnvC scp cl Ca X.env) fp) t (rC T X.K own k l tg))
    (ht : ∀ (s : Shared) (H : Hp) (Ca : Addr) (cl : List (Str × Addr)) (fp : List Addr) (k : Nat), k ≤ n → PTs (X.blk s H scp (compEnvC scp cl Ca X.env) fp) ts (rTs T X.K k l ifs))
    (hk : ∀ (s : Shared) (H : Hp) (Ca : Addr) (cl : List (Str × Addr)) (fp : List Addr) (k : Nat), k ≤ n → PE (X.blk s H scp (compEnvC scp cl Ca X.env) fp) x (rE T X.K k l kc))
    (he : ∀ (s : Shared) (H : Hp) (Ca : Addr) (cl : List (Str × Addr)) (fp : List Addr) (k : Nat), k ≤ n → PE (X.blk s H scp (compEnvC scp cl Ca X.env) fp) z (rE T X.K k l vc)) :
    PS X (.Assign [.Name y py] (.DictComp x z [⟨t, i, ts, 0⟩] scp pos) p) (rS T X.K (n + 2) l (.asg (.nm iy) (.dc own kc vc tg it ifs))) := by
  have ok : BlkOk X.N X.env.scope scp (ownOf C own) := by rw [O.hN, O.hsc]; exact blkOk_by hb
  have := ps_setDc (i := iy) (spos := p) O.calm (by rw [O.hN]; exact O.nd) (by rw [O.hN]; exact hi) (by rw [O.hsc]; exact hl) hsw hci ok (fun s H Ca cl fp => PG.any (hg s H Ca cl fp)) (fun s H Ca cl fp => PTs.any (ht s H Ca cl fp)) (fun s H Ca cl fp => PE.any (hk s H Ca cl fp)) (fun s H Ca cl fp => PE.any (he s H Ca cl fp)) (fold_no hset)
  rw [own_snd] at this
  refine PS.imp this fun D σ H hh => ?_
  obtain ⟨m, h, sg, p1, p2, R, S, e1, e2, P⟩ := asg_red hh
  simp only [evs, step, Option.some.injEq] at e2
  subst e2
  exact dc_ok ⟨m, h, sg, p1, R, S, e1, fun m1 H1 v x1 R1 r1 => P m1 H1 x1 R1 _ ((x1.sr R S).set r1)⟩
theorem swL {elt : Expr} {gs : List Comprehension} {pos py : Pos} {y : Str} {k : Nat} {env : Env} (hk : env.scope.kind = .function) (hs : env.scope = sc) : swapsWith (.ListComp elt gs scp pos) (some (.Name y py)) k env = pure (swB sc y py (.ListComp elt gs scp pos) scp) := by
  have hb : env.blockKind = .function := by unfold Env.blockKind; rw [hk]; rfl
  have ky : env.kindOf y = sc.names.lookup y := by show env.scope.names.lookup y = _; rw [hs]
  have hi : (sc.names.lookup y == some NameKind.local) = isLocal sc y := by
    unfold isLocal
    exact (Bool.beq_eq_decide_eq _ _)
  unfold swapsWith swB
  simp only [hb, ky, Expr.pos, hi]
  rfl
theorem swD {kx vx : Expr} {gs : List Comprehension} {pos py : Pos} {y : Str} {k : Nat} {env : Env} (hk : env.scope.kind = .function) (hs : env.scope = sc) : swapsWith (.DictComp kx vx gs scp pos) (some (.Name y py)) k env = pure (swB sc y py (.DictComp kx vx gs scp pos) scp) := by
  have hb : env.blockKind = .function := by unfold Env.blockKind; rw [hk]; rfl
  have ky : env.kindOf y = sc.names.lookup y := by show env.scope.names.lookup y = _; rw [hs]
  have hi : (sc.names.lookup y == some NameKind.local) = isLocal sc y := by
    unfold isLocal
    exact (Bool.beq_eq_decide_eq _ _)
  unfold swapsWith swB
  simp only [hb, ky, Expr.pos, hi]
  rfl
end
end Ez

/-! E5c: a, b = x, y -/
namespace Ez
open PySem PySem.Spec PyProof.Rows L2
def swNames (env : Env) (ts : List Expr) : List Str := ts.filterMap fun
    | .Name id pos => if env.kindOf id == some .local && pos.line == (ts.head?.map (·.pos.line)).getD 0 then some id else none
    | _ => none
theorem sws_eq (ts vs : List Expr) (kt k2 : Nat) (pt p2 : Pos) (env : Env) : swappedStores [.Tuple ts kt pt] (.Tuple vs k2 p2) env =
    (if (!(ts.length == 2 || ts.length == 3) || vs.length != ts.length || env.blockKind != .function) = true then pure none
    else if (vs.any fun | .Starred .. => true | _ => false) = true then pure none
    else if ((swNames env ts).length != ts.length || (swNames env ts).eraseDups.length != (swNames env ts).length) = true then pure none
    else if vs.all (foldedForSure 8) = true then pure none
    else if vs.all (constantsAlone 8) = true then (do unsupported "assign.tuple-of-constant-expressions:order-of-the-stores"; return some (swNames env ts))
    else pure (some (swNames env ts))) := by
  unfold swappedStores
  rfl
section
variable {T : Tab} {X : Cx} {C : Ck} {sc : Scope} {n l : Nat}
theorem kind_loc {env : Env} {x : Str} (hs : env.scope = sc) : (env.kindOf x == some NameKind.local) = isLocal sc x := by
  show (env.scope.names.lookup x == some NameKind.local) = _
  rw [hs]
  unfold isLocal
  exact Bool.beq_eq_decide_eq _ _
theorem star_any {vs : List Expr} (h : noStars vs = true) : (vs.any fun | .Starred .. => true | _ => false) = false := by
  rw [List.any_eq_false]
  intro e he
  unfold noStars at h
  rw [List.all_eq_true] at h
  have := h e he
  cases e <;> simp [isStar] at this ⊢
theorem N_ne {i j : Nat} {x y : Str} (nd : C.N.Nodup) (hi : C.N[i]? = some x) (hj : C.N[j]? = some y) (h : i ≠ j) : x ≠ y := fun z => by
  subst z
  exact h ((List.getElem?_inj (List.getElem?_eq_some_iff.mp hi).1 nd).mp (hi.trans hj.symm))
/-- what swappedStores tells: the names, or nothing -/
theorem par_sw2 {env : Env} {x y : Str} {px py pt p2 : Pos} {vs : List Expr} {kt k2 : Nat} {k : Bool} (hk : env.scope.kind = .function) (hs : env.scope = sc) (hn : x ≠ y) (hv : noStars vs = true) (hl : vs.length = 2) (h : parOk sc [.Name x px, .Name y py] vs = some k) :
    swappedStores [.Tuple [.Name x px, .Name y py] kt pt] (.Tuple vs k2 p2) env = pure (if k = true then some [x, y] else none) ∧ (k = true → isLocal sc x = true ∧ isLocal sc y = true) := by
  have hb : env.blockKind = .function := by unfold Env.blockKind; rw [hk]; rfl
  have e1 := kind_loc (x := x) hs
  have e2 := kind_loc (x := y) hs
  rw [sws_eq]
  have hbk : (env.blockKind != ScopeKind.function) = false := by rw [hb]; rfl
  simp only [List.length_cons, List.length_nil, hl, star_any hv, hbk]
  have hnd : ([x, y].eraseDups).length = 2 := by
    have : (y == x) = false := by rw [beq_eq_false_iff_ne]; exact fun z => hn z.symm
    simp [List.eraseDups_cons, this]
  have nm : swNames env [.Name x px, .Name y py] = (if isLocal sc x = true then [x] else []) ++ (if isLocal sc y && py.line == px.line then [y] else []) := by
    unfold swNames
    simp only [List.filterMap_cons, List.filterMap_nil, List.head?_cons, Option.map_some, Option.getD_some, Expr.pos, e1, e2, beq_self_eq_true, Bool.and_true]
    cases isLocal sc x <;> cases (isLocal sc y && py.line == px.line) <;> rfl
  have hpo : parOk sc [.Name x px, .Name y py] vs = (if (((isLocal sc x && px.line == px.line) && ((isLocal sc y && py.line == py.line) && true)) && ((px.line == px.line) && ((py.line == px.line) && true)) && !(vs.all (foldedForSure 8)) && !(vs.all (constantsAlone 8))) = true then some true
      else if ((vs.all (foldedForSure 8)) || (!isLocal sc x || (!isLocal sc y || false))) = true then some false else none) := rfl
  rw [hpo] at h
  split at h
  · rename_i hc
    cases h
    simp only [beq_self_eq_true, Bool.and_true, Bool.true_and, Bool.and_eq_true, Bool.not_eq_true'] at hc
    obtain ⟨⟨⟨⟨a1, a2⟩, a3⟩, a4⟩, a5⟩ := hc
    have nm2 : swNames env [.Name x px, .Name y py] = [x, y] := by rw [nm, if_pos a1, if_pos (by rw [a2, a3]; rfl)]; rfl
    rw [nm2]
    simp only [a4, a5]
    refine ⟨?_, fun _ => ⟨by rw [a1], by rw [a2]⟩⟩
    simp [hnd]
  · rename_i hc
    by_cases hd : (vs.all (foldedForSure 8) || (!isLocal sc x || (!isLocal sc y || false))) = true
    · rw [if_pos hd] at h
      cases h
      refine ⟨?_, fun z => by cases z⟩
      rw [nm]
      cases h1 : isLocal sc x
      · cases h2 : (isLocal sc y && py.line == px.line) <;> simp
      · cases h2 : (isLocal sc y && py.line == px.line)
        · simp
        · rw [Bool.and_eq_true] at h2
          simp only [h1, h2.1, Bool.not_true, Bool.or_false, Bool.or_eq_true] at hd
          have hd' : vs.all (foldedForSure 8) = true := by simpa using hd
          simp [hnd, hd']
    · rw [if_neg hd] at h
      cases h
theorem par_red2 {i j : Nat} {cs : List CE} {K : Fg} {D : Ends} {σ : L2.St} {H : Hp} (hh : rS T K (n + 1) l (.par [i, j] cs) D σ H) :
    rEs T K n l cs σ H fun vs H1 => ∃ v w, vs = [v, w] ∧ D.nx ((σ.set i (some v)).set j (some w)) H1 ∧ ∀ p, H1 p = none → D.nx ((σ.set i (some v)).set j (some w)) (upd H1 p (.tup vs)) := by
  obtain ⟨m, h, sg, q, R, S, e, P⟩ := hh
  simp only [evs, step] at e
  obtain ⟨p1, e1, e⟩ := bnd e
  refine ⟨m, h, sg, p1, R, S, e1, fun m1 H1 vs x1 R1 r1 => ?_⟩
  obtain ⟨ds, h1⟩ := p1
  rcases ds with _ | ⟨d1, _ | ⟨d2, _ | ⟨d3, ds⟩⟩⟩
  · cases e
  · cases e
  · cases e
    simp only [Rls] at r1
    obtain ⟨v, t, rfl, r2, w, t2, rfl, r3, rfl⟩ := r1
    refine ⟨v, w, rfl, P m1 H1 x1 R1 _ (((x1.sr R S).set r2).set r3), fun p hp => ?_⟩
    have E := Ext.newTup (m := m1) (u := .tup [v, w]) hp
    exact P m1 _ (x1.trans R1 E) (R1.newTup hp) _ (E.sr R1 (((x1.sr R S).set r2).set r3))
  · cases e
theorem st_par2 (O : Cok X C sc l) (F : Fok X) {i j : Nat} {x y : Str} {px py pt p2 p : Pos} {a b : Expr} {kt k2 : Nat} {k : Bool} {cs : List CE} (hi : C.N[i]? = some x) (hj : C.N[j]? = some y) (hij : i ≠ j) (hx : isLoc sc x = true) (hy : isLoc sc y = true)
    (hp : parOk sc [.Name x px, .Name y py] [a, b] = some k) (hs : noStars [a, b] = true) (ha : PA X [a, b] (rEs T X.K n l cs)) : PS X (.Assign [.Tuple [.Name x px, .Name y py] kt pt] (.Tuple [a, b] k2 p2) p) (rS T X.K (n + 1) l (.par [i, j] cs)) := by
  have hN : X.N.Nodup := by rw [O.hN]; exact O.nd
  have hi' : X.N[i]? = some x := by rw [O.hN]; exact hi
  have hj' : X.N[j]? = some y := by rw [O.hN]; exact hj
  obtain ⟨hsw, hloc⟩ := par_sw2 (pt := pt) (p2 := p2) (kt := kt) (k2 := k2) F.kd O.hsc (N_ne O.nd hi hj hij) hs rfl hp
  cases k with
  | true =>
    obtain ⟨l1, l2⟩ := hloc rfl
    refine PS.imp (ps_par O.calm hN hi' hj' hij (by rw [O.hsc]; exact of_decide_eq_true l1) (by rw [O.hsc]; exact of_decide_eq_true l2) ha hsw) fun D σ H hh => ?_
    obtain ⟨m, h, sg, q, R, S, e, P⟩ := par_red2 hh
    refine ⟨m, h, sg, q, R, S, e, fun m1 H1 vs x1 R1 r1 => ?_⟩
    obtain ⟨v, w, rfl, q1, _⟩ := P m1 H1 vs x1 R1 r1
    exact ⟨v, w, rfl, q1⟩
  | false =>
    have pg : PG X (.Tuple [.Name x px, .Name y py] kt pt) (gTup X.K 2 (gCons (gName i) (gCons (gName j) gNil))) := pg_tup O.calm (pgs_cons (pg_name hN hi' (O.loc hx) (.inl (F.fn x))) (pgs_cons (pg_name hN hj' (O.loc hy) (.inl (F.fn y))) pgs_nil))
    refine PS.imp (ps_asg (pe_tup ha) pg rfl hsw) fun D σ H hh => ?_
    obtain ⟨m, h, sg, q, R, S, e, P⟩ := par_red2 hh
    refine ⟨m, h, sg, q, R, S, e, fun m1 H1 vs x1 R1 r1 => ?_⟩
    obtain ⟨v, w, rfl, _, q1⟩ := P m1 H1 vs x1 R1 r1
    exact ⟨by show 2 ≤ sizeLine; decide, fun p hp => ⟨p, [v, w], rfl, SqT.of upd_same, rfl, v, [w], rfl, w, [], rfl, rfl, q1 p hp⟩⟩
/-- three names -/
theorem par_sw3 {env : Env} {x y z : Str} {px py pz pt p2 : Pos} {vs : List Expr} {kt k2 : Nat} (hk : env.scope.kind = .function) (hs : env.scope = sc) (hn : x ≠ y) (hn2 : x ≠ z) (hn3 : y ≠ z) (hv : noStars vs = true) (hl : vs.length = 3) (h : parOk sc [.Name x px, .Name y py, .Name z pz] vs = some true) :
    swappedStores [.Tuple [.Name x px, .Name y py, .Name z pz] kt pt] (.Tuple vs k2 p2) env = pure (some [x, y, z]) ∧ isLocal sc x = true ∧ isLocal sc y = true ∧ isLocal sc z = true := by
  have hb : env.blockKind = .function := by unfold Env.blockKind; rw [hk]; rfl
  have e1 := kind_loc (x := x) hs
  have e2 := kind_loc (x := y) hs
  have e3 := kind_loc (x := z) hs
  rw [sws_eq]
  have hbk : (env.blockKind != ScopeKind.function) = false := by rw [hb]; rfl
  simp only [List.length_cons, List.length_nil, hl, star_any hv, hbk]
  have hnd : ([x, y, z].eraseDups).length = 3 := by
    have a1 : (y == x) = false := by rw [beq_eq_false_iff_ne]; exact fun w => hn w.symm
    have a2 : (z == x) = false := by rw [beq_eq_false_iff_ne]; exact fun w => hn2 w.symm
    have a3 : (z == y) = false := by rw [beq_eq_false_iff_ne]; exact fun w => hn3 w.symm
    simp [List.eraseDups_cons, a1, a2, a3]
  have hpo : parOk sc [.Name x px, .Name y py, .Name z pz] vs = (if (((isLocal sc x && px.line == px.line) && ((isLocal sc y && py.line == py.line) && ((isLocal sc z && pz.line == pz.line) && true))) && ((px.line == px.line) && ((py.line == px.line) && ((pz.line == px.line) && true))) && !(vs.all (foldedForSure 8)) && !(vs.all (constantsAlone 8))) = true then some true
      else if ((vs.all (foldedForSure 8)) || (!isLocal sc x || (!isLocal sc y || (!isLocal sc z || false)))) = true then some false else none) := rfl
  rw [hpo] at h
  split at h
  · rename_i hc
    simp only [beq_self_eq_true, Bool.and_true, Bool.true_and, Bool.and_eq_true, Bool.not_eq_true'] at hc
    obtain ⟨⟨⟨⟨a1, a2, a3⟩, b1, b2⟩, a4⟩, a5⟩ := hc
    have nm : swNames env [.Name x px, .Name y py, .Name z pz] = [x, y, z] := by
      unfold swNames
      simp only [List.filterMap_cons, List.filterMap_nil, List.head?_cons, Option.map_some, Option.getD_some, Expr.pos, e1, e2, e3, beq_self_eq_true, Bool.and_true, a1, a2, a3, b1, b2, if_true, Bool.true_and]
    rw [nm]
    simp only [a4, a5]
    refine ⟨?_, a1, a2, a3⟩
    simp [hnd]
  · split at h <;> cases h
theorem st_par3 (O : Cok X C sc l) (F : Fok X) {i j r : Nat} {x y z : Str} {px py pz pt p2 p : Pos} {a b c : Expr} {kt k2 : Nat} {cs : List CE} (hi : C.N[i]? = some x) (hj : C.N[j]? = some y) (hr : C.N[r]? = some z) (hij : i ≠ j) (hir : i ≠ r) (hjr : j ≠ r)
    (hp : parOk sc [.Name x px, .Name y py, .Name z pz] [a, b, c] = some true) (hs : noStars [a, b, c] = true) (ha : PA X [a, b, c] (rEs T X.K n l cs)) : PS X (.Assign [.Tuple [.Name x px, .Name y py, .Name z pz] kt pt] (.Tuple [a, b, c] k2 p2) p) (rS T X.K (n + 1) l (.par [i, j, r] cs)) := by
  have hN : X.N.Nodup := by rw [O.hN]; exact O.nd
  have hi' : X.N[i]? = some x := by rw [O.hN]; exact hi
  have hj' : X.N[j]? = some y := by rw [O.hN]; exact hj
  have hr' : X.N[r]? = some z := by rw [O.hN]; exact hr
  obtain ⟨hsw, l1, l2, l3⟩ := par_sw3 (pt := pt) (p2 := p2) (kt := kt) (k2 := k2) F.kd O.hsc (N_ne O.nd hi hj hij) (N_ne O.nd hi hr hir) (N_ne O.nd hj hr hjr) hs rfl hp
  refine PS.imp (ps_par3 O.calm hN hi' hj' hr' hij hir hjr (by rw [O.hsc]; exact of_decide_eq_true l1) (by rw [O.hsc]; exact of_decide_eq_true l2) (by rw [O.hsc]; exact of_decide_eq_true l3) ha hsw) fun D σ H hh => ?_
  obtain ⟨m, h, sg, q, R, S, e, P⟩ := hh
  simp only [evs, step] at e
  obtain ⟨p1, e1, e⟩ := bnd e
  refine ⟨m, h, sg, p1, R, S, e1, fun m1 H1 vs x1 R1 r1 => ?_⟩
  obtain ⟨ds, h1⟩ := p1
  rcases ds with _ | ⟨d1, _ | ⟨d2, _ | ⟨d3, _ | ⟨d4, ds⟩⟩⟩⟩
  · cases e
  · cases e
  · cases e
  · cases e
    simp only [Rls] at r1
    obtain ⟨v, t, rfl, r2, w, t2, rfl, r3, u, t3, rfl, r4, rfl⟩ := r1
    exact ⟨v, w, u, rfl, P m1 H1 x1 R1 _ ((((x1.sr R S).set r2).set r3).set r4)⟩
  · cases e
end
end Ez

/-! E5d: all statements, by fuel -/
namespace Ez
open PySem PySem.Spec PyProof.Rows L2
theorem asExS_eq {s : Stmt} {e : Expr} (h : asExS s = some e) : ∃ p, s = .Expr e p := by
  cases s <;> simp [asExS] at h
  subst h
  exact ⟨_, rfl⟩
theorem asAsg_eq {s : Stmt} {t e : Expr} {p : Pos} (h : asAsg s = some (t, e, p)) : s = .Assign [t] e p := by
  unfold asAsg at h
  split at h
  · cases h; rfl
  · cases h
theorem asAug_eq {s : Stmt} {x : Str} {o : Operator} {e : Expr} (h : asAug s = some (x, o, e)) : ∃ p q, s = .AugAssign (.Name x p) o e q := by
  unfold asAug at h
  split at h
  · cases h; exact ⟨_, _, rfl⟩
  · cases h
theorem asRet_eq {s : Stmt} {e : Expr} (h : asRet s = some e) : ∃ p, s = .Return (some e) p := by
  unfold asRet at h
  split at h
  · cases h; exact ⟨_, rfl⟩
  · cases h
theorem isRetN_eq {s : Stmt} (h : isRetN s = true) : ∃ p, s = .Return none p := by
  unfold isRetN at h
  split at h
  · exact ⟨_, rfl⟩
  · cases h
theorem asIfS_eq {s : Stmt} {c : Expr} {a b : List Stmt} (h : asIfS s = some (c, a, b)) : ∃ p, s = .If c a b p := by
  unfold asIfS at h
  split at h
  · cases h; exact ⟨_, rfl⟩
  · cases h
theorem asWhl_eq {s : Stmt} {c : Expr} {a : List Stmt} (h : asWhl s = some (c, a)) : ∃ p, s = .While c a [] p := by
  unfold asWhl at h
  split at h
  · cases h; exact ⟨_, rfl⟩
  · cases h
theorem asFor_eq {s : Stmt} {t i : Expr} {a : List Stmt} (h : asFor s = some (t, i, a)) : ∃ p, s = .For t i a [] p := by
  unfold asFor at h
  split at h
  · cases h; exact ⟨_, rfl⟩
  · cases h
theorem isPass_eq {s : Stmt} (h : isPass s = true) : ∃ p, s = .Pass p := by
  unfold isPass at h
  split at h
  · exact ⟨_, rfl⟩
  · cases h
theorem isBrk_eq {s : Stmt} (h : isBrk s = true) : ∃ p, s = .Break p := by
  unfold isBrk at h
  split at h
  · exact ⟨_, rfl⟩
  · cases h
theorem isCnt_eq {s : Stmt} (h : isCnt s = true) : ∃ p, s = .Continue p := by
  unfold isCnt at h
  split at h
  · exact ⟨_, rfl⟩
  · cases h
theorem namePos_eq {e : Expr} {x : Str} {p : Pos} (h : namePos e = some (x, p)) : e = .Name x p := by
  unfold namePos at h
  split at h
  · cases h; rfl
  · cases h
section
variable {T : Tab} {X : Cx} {C : Ck} {sc : Scope} {n l : Nat}
theorem ckG_shape {f : Nat} {t e : Expr} {g : TG} (h : ckG C f sc t g = true) (ht : (isTupE e && isTupE t) = false) : isStar t = false ∧ ∀ env, swappedStores [t] e env = pure none := by
  cases f with
  | zero => simp [ckG] at h
  | succ f =>
    unfold ckG at h
    cases g with
    | nm i =>
      simp only at h
      split at h
      · rename_i y hy
        obtain ⟨p, rfl⟩ := asName_eq hy
        exact ⟨rfl, fun env => by cases e <;> rfl⟩
      · cases h
    | tu gs =>
      simp only at h
      split at h
      · rename_i es hx
        obtain ⟨kk, p, rfl⟩ := asTupE_eq hx
        refine ⟨rfl, fun env => ?_⟩
        cases e <;> first | rfl | simp [isTupE] at ht
      · cases h
    | sb o i =>
      simp only at h
      split at h
      · rename_i y z hx
        obtain ⟨p, rfl⟩ := asSubE_eq hx
        exact ⟨rfl, fun env => by cases e <;> rfl⟩
      · cases h
theorem step_asg (O : Cok X C sc l) (F : Fok X) (Fs : ∀ j, j ≤ n → FnsG T X.prog X.w X.K X.mg X.base C.fm j) (f : Nat) (g : TG) (a : CE) (s : Stmt) (h : ckS C f sc s (.asg g a) = true) : PS X s (rS T X.K (n + 1) l (.asg g a)) := by
  have Hk : ∀ k, k ≤ n → Hyp T X C sc l k := fun k hk => hyp k X C sc l O fun j hj => Fs j (by omega)
  cases f with
  | zero => simp [ckS] at h
  | succ f =>
    simp only [ckS] at h
    split at h
    · rename_i t e p hx
      have := asAsg_eq hx
      subst this
      rw [Bool.or_eq_true] at h
      rcases h with h | h
      · simp only [Bool.and_eq_true, Bool.not_eq_true'] at h
        obtain ⟨⟨⟨h1, h2⟩, h3⟩, h4⟩ := h
        obtain ⟨q1, q2⟩ := ckG_shape h3 h2
        have hsw : ∀ k env, swapsWithSole [t] e k env = pure false := by
          rcases Bool.or_eq_true_iff.mp h1 with z | z
          · intro k env
            rw [Bool.not_eq_true'] at z
            exact sw_no z
          · obtain ⟨⟨y, i⟩, hy⟩ := Option.isSome_iff_exists.mp z
            obtain ⟨q, rfl⟩ := asSubE_eq hy
            intro k env
            cases e <;> rfl
        exact st_asg q1 hsw q2 ((Hk n (Nat.le_refl _)).e f e a h4) (gt_ok O F f n t g (fun j hj => Hk j (by omega)) h3)
      · cases g with
        | nm i =>
          simp only at h
          split at h
          · rename_i y py hy
            have := namePos_eq hy
            subst this
            simp only [Bool.and_eq_true, decide_eq_true_eq] at h
            obtain ⟨⟨⟨h1, h2⟩, h3⟩, h4⟩ := h
            have he := (Hk n (Nat.le_refl _)).e f e a h4
            cases n with
            | zero =>
              refine ⟨fun _ _ _ _ _ _ hh => ?_⟩
              obtain ⟨_, _, _, _, _, _, _, e1, _⟩ := asg_red hh
              cases e1
            | succ n =>
              cases e with
              | ListComp elt gs scp pos =>
                cases hsw : swB sc y py (.ListComp elt gs scp pos) scp
                · refine st_asgN O F h1 h2 ?_ he
                  rw [swL F.kd O.hsc, hsw]
                · cases f with
                  | zero => simp [ckE] at h4
                  | succ f =>
                    cases a with
                    | lc own ce tg it ifs =>
                      simp only [ckE] at h4
                      split at h4
                      · rename_i y' t i ts scp' hy'
                        obtain ⟨p', e'⟩ := asLC_eq hy'
                        cases e'
                        simp only [Bool.and_eq_true, decide_eq_true_eq, Bool.not_eq_true'] at h4
                        obtain ⟨⟨⟨⟨⟨⟨⟨g1, g2⟩, g3⟩, g4⟩, g5⟩, g6⟩, g7⟩, g8⟩ := h4
                        have hl : sc.names.lookup y = some .local := by
                          unfold swB isLocal at hsw
                          simp only [Bool.and_eq_true, decide_eq_true_eq] at hsw
                          exact hsw.1.1
                        refine st_setLc O F h1 hl (by rw [swL F.kd O.hsc, hsw]) g1 g4 ((Hk n (by omega)).ci f t i it g3) (fun s Hh Ca cl fp k hk => ct_ok O s Hh cl Ca fp f t tg k g2) (fun s Hh Ca cl fp k hk => ?_) (fun s Hh Ca cl fp k hk => ?_)
                        · exact tss_ok f g5 g6 g7 k fun j hj => hyp j _ C (relS scp sc) l (O.blk s Hh cl Ca fp) fun i hi => Fs i (by omega)
                        · exact (hyp k _ C (relS scp sc) l (O.blk s Hh cl Ca fp) fun i hi => Fs i (by omega)).e f elt ce g8
                      · cases h4
                    | _ => simp [ckE, asName, asConst, asBin, asNeg, asNot, asAnd, asOr, asIf, asCmp, asTupE, asLstE, asCallN, asMeth, asSubE, asDC, asDict] at h4
              | DictComp kx vx gs scp pos =>
                cases hsw : swB sc y py (.DictComp kx vx gs scp pos) scp
                · refine st_asgN O F h1 h2 ?_ he
                  rw [swD F.kd O.hsc, hsw]
                · cases f with
                  | zero => simp [ckE] at h4
                  | succ f =>
                    cases a with
                    | dc own kc vc tg it ifs =>
                      simp only [ckE] at h4
                      split at h4
                      · rename_i y' z' t i ts scp' hy'
                        obtain ⟨p', e'⟩ := asDC_eq hy'
                        cases e'
                        simp only [Bool.and_eq_true, decide_eq_true_eq, Bool.not_eq_true'] at h4
                        obtain ⟨⟨⟨⟨⟨⟨⟨⟨g1, g2⟩, g3⟩, g4⟩, g5⟩, g6⟩, g7⟩, g8⟩, g9⟩ := h4
                        have hl : sc.names.lookup y = some .local := by
                          unfold swB isLocal at hsw
                          simp only [Bool.and_eq_true, decide_eq_true_eq] at hsw
                          exact hsw.1.1
                        refine st_setDc O F h1 hl (by rw [swD F.kd O.hsc, hsw]) g1 g4 ((Hk n (by omega)).ci f t i it g3) (fun s Hh Ca cl fp k hk => ct_ok O s Hh cl Ca fp f t tg k g2) (fun s Hh Ca cl fp k hk => ?_) (fun s Hh Ca cl fp k hk => ?_) (fun s Hh Ca cl fp k hk => ?_)
                        · exact tss_ok f g5 g6 g7 k fun j hj => hyp j _ C (relS scp sc) l (O.blk s Hh cl Ca fp) fun i hi => Fs i (by omega)
                        · exact (hyp k _ C (relS scp sc) l (O.blk s Hh cl Ca fp) fun i hi => Fs i (by omega)).e f kx kc g8
                        · exact (hyp k _ C (relS scp sc) l (O.blk s Hh cl Ca fp) fun i hi => Fs i (by omega)).e f vx vc g9
                      · cases h4
                    | _ => simp [ckE, asName, asConst, asBin, asNeg, asNot, asAnd, asOr, asIf, asCmp, asTupE, asLstE, asCallN, asMeth, asSubE, asLC, asDict] at h4
              | _ => simp [isLD] at h3
          · cases h
        | tu gs => cases h
        | sb o i => cases h
    · cases h
theorem step_par (O : Cok X C sc l) (F : Fok X) (Fs : ∀ j, j ≤ n → FnsG T X.prog X.w X.K X.mg X.base C.fm j) (f : Nat) (is : List Nat) (cs : List CE) (s : Stmt) (h : ckS C f sc s (.par is cs) = true) : PS X s (rS T X.K (n + 1) l (.par is cs)) := by
  have Hk : ∀ k, k ≤ n → Hyp T X C sc l k := fun k hk => hyp k X C sc l O fun j hj => Fs j (by omega)
  cases f with
  | zero => simp [ckS] at h
  | succ f =>
    simp only [ckS] at h
    split at h
    · rename_i t e p hx
      have := asAsg_eq hx
      subst this
      split at h
      · rename_i ts es ht he
        obtain ⟨kt, pt, rfl⟩ := asTupE_eq ht
        obtain ⟨k2, p2, rfl⟩ := asTupE_eq he
        simp only [Bool.and_eq_true, decide_eq_true_eq] at h
        obtain ⟨⟨⟨⟨⟨⟨⟨⟨h1, h2⟩, h3⟩, h4⟩, h5⟩, h6⟩, h7⟩, h8⟩, h9⟩ := h
        rcases is with _ | ⟨i, _ | ⟨j, _ | ⟨i3, _ | ⟨_, _⟩⟩⟩⟩
        · simp at h4
        · simp at h4
        · simp only [List.length_cons, List.length_nil] at h4
          rcases ts with _ | ⟨t1, _ | ⟨t2, _ | ⟨_, _⟩⟩⟩
          · simp at h2
          · simp at h2
          · rcases es with _ | ⟨e1, _ | ⟨e2, _ | ⟨_, _⟩⟩⟩
            · simp at h3
            · simp at h3
            · simp only [all2, Bool.and_eq_true] at h8
              obtain ⟨g1, g2, _⟩ := h8
              split at g1
              · rename_i x hx1
                obtain ⟨px, rfl⟩ := asName_eq hx1
                split at g2
                · rename_i y hy1
                  obtain ⟨py, rfl⟩ := asName_eq hy1
                  simp only [Bool.and_eq_true, decide_eq_true_eq] at g1 g2
                  obtain ⟨k, hk⟩ := Option.isSome_iff_exists.mp h1
                  have hij : i ≠ j := by simpa using h5
                  exact st_par2 O F g1.1 g2.1 hij g1.2 g2.2 hk h6 ((Hk n (Nat.le_refl _)).es f [e1, e2] cs h6 h9)
                · cases g2
              · cases g1
            · simp at h3
          · simp at h2
        · rcases ts with _ | ⟨t1, _ | ⟨t2, _ | ⟨t3, _ | ⟨_, _⟩⟩⟩⟩
          · simp at h2
          · simp at h2
          · simp at h2
          · rcases es with _ | ⟨e1, _ | ⟨e2, _ | ⟨e3, _ | ⟨_, _⟩⟩⟩⟩
            · simp at h3
            · simp at h3
            · simp at h3
            · simp only [all2, Bool.and_eq_true] at h8
              obtain ⟨g1, g2, g3, _⟩ := h8
              split at g1
              · rename_i x hx1
                obtain ⟨px, rfl⟩ := asName_eq hx1
                split at g2
                · rename_i y hy1
                  obtain ⟨py, rfl⟩ := asName_eq hy1
                  split at g3
                  · rename_i z hz1
                    obtain ⟨pz, rfl⟩ := asName_eq hz1
                    simp only [Bool.and_eq_true, decide_eq_true_eq] at g1 g2 g3
                    have hp : parOk sc [.Name x px, .Name y py, .Name z pz] [e1, e2, e3] = some true := by
                      simp only [List.length_cons, List.length_nil, Bool.or_eq_true, Bool.and_eq_true, decide_eq_true_eq] at h4
                      rcases h4 with h4 | h4
                      · omega
                      · exact h4.2
                    have hnd : i ≠ j ∧ i ≠ i3 ∧ j ≠ i3 := by
                      simp only [List.nodup_cons, List.mem_cons, List.not_mem_nil, or_false, not_or] at h5
                      exact ⟨h5.1.1, h5.1.2, h5.2.1⟩
                    exact st_par3 O F g1.1 g2.1 g3.1 hnd.1 hnd.2.1 hnd.2.2 hp h6 ((Hk n (Nat.le_refl _)).es f [e1, e2, e3] cs h6 h9)
                  · cases g3
                · cases g2
              · cases g1
            · simp at h3
          · simp at h2
        · simp at h4
      · cases h
    · cases h
theorem stm : ∀ (n : Nat) (X : Cx) (C : Ck) (sc : Scope) (l : Nat), Cok X C sc l → Fok X → (∀ j, j < n → FnsG T X.prog X.w X.K X.mg X.base C.fm j) →
    (∀ (f : Nat) (s : Stmt) (c : CS), ckS C f sc s c = true → PS X s (rS T X.K n l c)) ∧ (∀ (f : Nat) (ss : List Stmt) (cs : List CS), all2 (ckS C f sc) ss cs = true → PSs X ss (rSs T X.K n l cs)) := by
  intro n
  induction n using Nat.strongRecOn with
  | ind n ih =>
    intro X C sc l O F Fs
    cases n with
    | zero => exact ⟨fun _ _ _ _ => rS0, fun _ _ _ _ => rSs0⟩
    | succ n =>
      have Hk : ∀ k, k ≤ n → Hyp T X C sc l k := fun k hk => hyp k X C sc l O fun j hj => Fs j (by omega)
      have Ik : ∀ k, k ≤ n → _ := fun k hk => ih k (by omega) X C sc l O F fun j hj => Fs j (by omega)
      have H := Hk n (Nat.le_refl _)
      refine ⟨fun f s c h => ?_, fun f ss cs h => ?_⟩
      · cases c with
        | asg g a => exact step_asg O F (fun j hj => Fs j (by omega)) f g a s h
        | par is cs => exact step_par O F (fun j hj => Fs j (by omega)) f is cs s h
        | ex a =>
          cases f with
          | zero => simp [ckS] at h
          | succ f =>
            simp only [ckS] at h
            split at h
            · rename_i e hx
              obtain ⟨p, rfl⟩ := asExS_eq hx
              rw [Bool.and_eq_true, Bool.not_eq_true'] at h
              exact st_ex h.1 (H.e f e a h.2)
            · cases h
        | aug i op a =>
          cases f with
          | zero => simp [ckS] at h
          | succ f =>
            simp only [ckS] at h
            split at h
            · rename_i x o e hx
              obtain ⟨p, q, rfl⟩ := asAug_eq hx
              simp only [Bool.and_eq_true, decide_eq_true_eq] at h
              obtain ⟨⟨⟨⟨h1, h2⟩, h3⟩, rfl⟩, h5⟩ := h
              cases op <;> simp [bopOf] at h3
              exact st_aug O F h1 h2 (H.e f e a h5)
            · cases h
        | ret a =>
          cases f with
          | zero => simp [ckS] at h
          | succ f =>
            simp only [ckS] at h
            split at h
            · rename_i e hx
              obtain ⟨p, rfl⟩ := asRet_eq hx
              exact st_ret (H.e f e a h)
            · cases h
        | retN =>
          cases f with
          | zero => simp [ckS] at h
          | succ f =>
            simp only [ckS] at h
            obtain ⟨p, rfl⟩ := isRetN_eq h
            exact st_retN
        | ife t a b =>
          cases f with
          | zero => simp [ckS] at h
          | succ f =>
            simp only [ckS] at h
            split at h
            · rename_i x y z hx
              obtain ⟨p, rfl⟩ := asIfS_eq hx
              simp only [Bool.and_eq_true] at h
              obtain ⟨⟨⟨h0, h1⟩, h2⟩, h3⟩ := h
              exact st_ife (H.t f 9 x t h1 h0) ((Ik n (Nat.le_refl _)).2 f y a h2) ((Ik n (Nat.le_refl _)).2 f z b h3)
            · cases h
        | whl t b =>
          cases f with
          | zero => simp [ckS] at h
          | succ f =>
            simp only [ckS] at h
            split at h
            · rename_i x y hx
              obtain ⟨p, rfl⟩ := asWhl_eq hx
              simp only [Bool.and_eq_true] at h
              obtain ⟨⟨h0, h1⟩, h2⟩ := h
              exact st_whl O (fun k hk => (Hk k hk).t f 9 x t h1 h0) (fun k hk => (Ik k hk).2 f y b h2)
            · cases h
        | for_ g it b =>
          cases f with
          | zero => simp [ckS] at h
          | succ f =>
            simp only [ckS] at h
            split at h
            · rename_i t i y hx
              obtain ⟨p, rfl⟩ := asFor_eq hx
              simp only [Bool.and_eq_true, Bool.not_eq_true'] at h
              obtain ⟨⟨⟨h0, h1⟩, h2⟩, h3⟩ := h
              exact st_for O h2 (H.ci f t i it h1) (fun k hk => gt_ok O F f k t g (fun j hj => Hk j (by omega)) h0) (fun k hk => (Ik k hk).2 f y b h3)
            · cases h
        | pas =>
          cases f with
          | zero => simp [ckS] at h
          | succ f =>
            simp only [ckS] at h
            obtain ⟨p, rfl⟩ := isPass_eq h
            exact st_pas
        | brk =>
          cases f with
          | zero => simp [ckS] at h
          | succ f =>
            simp only [ckS] at h
            obtain ⟨p, rfl⟩ := isBrk_eq h
            exact st_brk
        | cnt =>
          cases f with
          | zero => simp [ckS] at h
          | succ f =>
            simp only [ckS] at h
            obtain ⟨p, rfl⟩ := isCnt_eq h
            exact st_cnt
        | nev => exact st_nev
      · cases ss with
        | nil =>
          cases all2_nil h rfl
          exact st_nil
        | cons s ss =>
          cases cs with
          | nil => cases h
          | cons c cs =>
            simp only [all2, Bool.and_eq_true] at h
            exact st_cons ((Ik n (Nat.le_refl _)).1 f s c h.1) ((Ik n (Nat.le_refl _)).2 f ss cs h.2)
end
end Ez

/-! E6: the defs' promises, the law's end -/
namespace Ez
open PySem PySem.Spec PyProof.Rows L2
/-! ### the written part without one address -/
def Kx (K : Fg) (a : Addr) : Fg := K.filter fun p => !(p.1 == a)
theorem Kx_lookup {K : Fg} {a : Addr} : ∀ b, (Kx K a).lookup b = if b = a then none else K.lookup b := by
  intro b
  induction K with
  | nil =>
    show ([] : Fg).lookup b = _
    split <;> rfl
  | cons p r ih =>
    obtain ⟨c, o⟩ := p
    have ih' : (r.filter fun p => !(p.1 == a)).lookup b = if b = a then none else r.lookup b := ih
    by_cases hc : c = a
    · subst hc
      have e : Kx ((c, o) :: r) c = r.filter fun p => !(p.1 == c) := by
        unfold Kx
        rw [List.filter_cons]
        simp
      rw [e, ih']
      by_cases hb : b = c
      · rw [if_pos hb, if_pos hb]
      · rw [if_neg hb, if_neg hb, List.lookup_cons]
        have : (b == c) = false := by rw [beq_eq_false_iff_ne]; exact hb
        rw [this]
    · have e : Kx ((c, o) :: r) a = (c, o) :: r.filter fun p => !(p.1 == a) := by
        unfold Kx
        rw [List.filter_cons]
        simp [hc]
      rw [e, List.lookup_cons, List.lookup_cons, ih']
      by_cases hb : b = c
      · subst hb
        simp [hc]
      · have : (b == c) = false := by rw [beq_eq_false_iff_ne]; exact hb
        rw [this]
theorem Kx_in {K : Fg} {a : Addr} {h : Heap} (X : K.In h) : (Kx K a).In h := fun b o e => by
  rw [Kx_lookup] at e
  split at e
  · cases e
  · exact X b o e
theorem funD_x {K : Fg} {a : Addr} {h : Heap} {vs : List Value} {x qual : Str} {params : Arguments} {body : List Stmt} {scope : Scope} {f : Addr} {fd : FuncData} (X : K.In h) (ha : h.get? a = some { cls := .type "list", data := .seq vs.toArray })
    (F : FunD K x qual params body scope [] [] f fd) : FunD (Kx K a) x qual params body scope [] [] f fd := by
  obtain ⟨oc, od, dV, kV, doc, pm, an, cdv, ct, osl, e1, e2, e3, e4, e5⟩ := F.ex
  have nf : f ≠ a := fun z => by
    have := X f _ e2
    rw [z, ha] at this
    cases this
  have l2 : (Kx K a).lookup f = some ⟨oc, od, .func fd, osl⟩ := by rw [Kx_lookup, if_neg nf]; exact e2
  refine ⟨⟨oc, od, dV, kV, doc, pm, an, cdv, ct, osl, e1, l2, ?_, ?_, .inl rfl⟩, ?_⟩
  · unfold PySem.W.codeIn at e3 ⊢
    cases cdv with
    | ref c =>
      cases hl : K.lookup c with
      | none => simp [hl] at e3
      | some o =>
        have nc : c ≠ a := fun z => by
          have q := X c _ hl
          rw [z, ha] at q
          cases q
          simp [hl] at e3
        simp only [Kx_lookup, if_neg nc, hl] at e3 ⊢
        exact e3
    | _ => cases e3
  · rcases e4 with q | ⟨q, _⟩
    · exact .inl q
    · exact absurd rfl q
  · show PySem.W.keepIn (Kx K a) (.ref f) = true
    unfold PySem.W.keepIn
    simp only [l2]
/-! ### the defs' promises -/
/-- what is asked of a row of the table -/
structure DefOk (T : Tab) (K : Fg) (mg : Str → Option Value) (fm : List (Str × Nat)) (cs : List (Str × D)) (q : Str × Nat) : Prop where
  ex : ∃ (a : Addr) (fd : FuncData) (name qual : Str) (params : Arguments) (body : List Stmt) (scope : Scope) (N ps : List Str) (F : Fn) (fu : Nat),
    FunD K name qual params body scope [] [] a fd ∧ mg q.1 = some (.ref a) ∧ Binds K fd ps [] ∧ FnScope N ps scope ∧ T[q.2]? = some F ∧ F.np = ps.length ∧ F.ns = N.length ∧ all2 (ckS ⟨N, fm, cs⟩ fu scope) body F.body = true
theorem start_sr {K : Fg} {m : List Addr} {H : Hp} {N : List Str} {as : List D} {vs : List V} (r : Rls K m H as vs) : Sr K m H (Ez.start N.length as) (L2.start N vs) := by
  have hl := r.length
  refine ⟨by simp [Ez.start, L2.start, hl], fun i d e => ?_⟩
  unfold Ez.start at e
  unfold L2.start
  by_cases hi : i < as.length
  · rw [List.getElem?_append_left (by simpa using hi), List.getElem?_map] at e
    cases hx : as[i]? with
    | none => rw [hx] at e; cases e
    | some d' =>
      rw [hx] at e
      cases e
      obtain ⟨v, hv, rv⟩ := r.get hx
      refine ⟨v, ?_, rv⟩
      rw [List.getElem?_append_left (by rw [List.length_map, hl]; exact hi), List.getElem?_map, hv]
      rfl
  · rw [List.getElem?_append_right (by simpa using hi), List.getElem?_replicate] at e
    split at e <;> cases e
section
variable {T : Tab} {P : Program} {w : World} {K : Fg} {mg : Str → Option Value} {base : Heap} {fm : List (Str × Nat)} {cs : List (Str × D)}
theorem rCa_len {K : Fg} {n l f k : Nat} {F : Fn} (hT : T[f]? = some F) (hk : F.np = k) : ∀ vs H Q, rCa T K n l f vs H Q E0 → vs.length = k := fun vs H Q ⟨m, h, as, p, R, r, e, P⟩ => by
  cases n with
  | zero => cases e
  | succ n =>
    simp only [evs, step, hT, Option.bind] at e
    split at e
    · rename_i hl
      rw [r.length, hl, hk]
    · cases e
theorem fg_def (md : ∀ N, Md K mg ⟨N, fm, cs⟩) {n : Nat} (Fs : ∀ j, j < n → FnsG T P w K mg base fm j) {a : Addr} {fd : FuncData} {name qual : Str} {params : Arguments} {body : List Stmt} {scope : Scope} {N ps : List Str} {F : Fn} {f fu : Nat}
    (hF : FunD K name qual params body scope [] [] a fd) (S : FnScope N ps scope) (hT : T[f]? = some F) (hnp : F.np = ps.length) (hns : F.ns = N.length) (hck : all2 (ckS ⟨N, fm, cs⟩ fu scope) body F.body = true) (l : Nat) : FG P w K mg base (l + 1) a fd ps (rCa T K n l f) := by
  refine fg_of hF S (rCa_len hT hnp) fun cdv A outer s H vs Q hr hgd ⟨m, h, as, p, R, r, e, Po⟩ => ?_
  cases n with
  | zero => cases e
  | succ n =>
    simp only [evs, step, hT, Option.bind] at e
    split at e
    · rename_i hl
      split at e
      · cases e
      · rename_i p1 e1
        refine ⟨rSs T K n l F.body, PSs.nox ?_, m, h, _, p1, R, ?_, e1, fun m1 H1 x1 R1 => ?_⟩
        · have O : Cok (cxOf CX0 P w K mg base N qual scope a cdv A outer s H E0).nox ⟨N, fm, cs⟩ scope l := ⟨hr, hgd, rfl, rfl, S.nd, rfl, md N, PassesOwn.never⟩
          exact (stm n _ ⟨N, fm, cs⟩ scope l O ⟨fun _ => rfl, S.kind⟩ fun j hj => Fs j (by omega)).2 fu body F.body hck
        · rw [hns]
          exact start_sr r
        · obtain ⟨fl, sg1, h1⟩ := p1
          cases fl with
          | nx => cases e; exact fun σ S1 => Po m1 H1 .non x1 R1 rfl
          | rt d => cases e; exact fun v rv => Po m1 H1 v x1 R1 rv
          | bk => cases e
          | ct => cases e
    · cases e
theorem fg_step (md : ∀ N, Md K mg ⟨N, fm, cs⟩) {n : Nat} (Fs : ∀ j, j < n → FnsG T P w K mg base fm j) (D : ∀ q ∈ fm, DefOk T K mg fm cs q) : FnsG T P w K mg base fm n := by
  intro q hq
  obtain ⟨a, fd, name, qual, params, body, scope, N, ps, F, fu, hF, hm, hb, S, hT, hnp, hns, hck⟩ := (D q hq).ex
  exact ⟨a, fd, ps, ⟨hm, hF.kp, hb⟩, fun l => fg_def md Fs hF S hT hnp hns hck l⟩
theorem fns (md : ∀ N, Md K mg ⟨N, fm, cs⟩) (D : ∀ q ∈ fm, DefOk T K mg fm cs q) : ∀ n, FnsG T P w K mg base fm n := by
  intro n
  induction n using Nat.strongRecOn with
  | ind n ih => exact fg_step md ih D
end
/-! ### the law's end -/
/-- the heap as the law's call finds it: the script alone -/
def scrH (a : Addr) (vs : List Value) (ns : List Int) : Hp := fun b => if b = a then some (.frz { cls := .type "list", data := .seq vs.toArray } (.lst (ns.map V.int))) else none
theorem scrH_at {a : Addr} {vs : List Value} {ns : List Int} : scrH a vs ns a = some (.frz { cls := .type "list", data := .seq vs.toArray } (.lst (ns.map V.int))) := if_pos rfl
theorem scrH_ne {a b : Addr} {vs : List Value} {ns : List Int} (h : b ≠ a) : scrH a vs ns b = none := if_neg h
theorem law_g {P : Program} {w : World} {K : Fg} {mg mb : Str → Option Value} {k : Nat} {fa a : Addr} {fd : FuncData} {x : Str} {sp : Sp} {t : Shared} {vs : List Value} {ns : List Int}
    (KX : K.In t.heap) (Ka : K.lookup a = none) (G : t.heap.Ns mainGlobals mg) (B : t.heap.Ns builtinsNs mb) (hbb : ∀ x : Str, x ≠ "__name__" → mb x = bootBuiltins x) (lim : t.heap.NoLimit) (gn : t.gens = #[])
    (ob : t.heap.get? a = some { cls := .type "list", data := .seq vs.toArray }) (hi : IntsAre vs ns) (hl : ns.length ≤ sizeLine) (room : Room k callerA)
    (F : ∀ base : Heap, K.In base → base.Ns mainGlobals mg → FG P w K mg base k fa fd [x] sp) (bd : ∀ (s : Shared) (u : Value), BindsTo s fd ⟨[u], []⟩ [(x, u)]) (q : sp [.ref a] (scrH a vs ns) (fun v _ => v = .bl true) E0) :
    codeAny (model P w) callerA (.call (.ref fa) ⟨[.ref a], []⟩) (fun r s' => r = .ok (.ret (.bool true)) ∧ OldK t.heap s'.heap ∧ s'.os = t.os ∧ AllBare s'.gens) t := by
  have see : ∀ {b : Addr} {o : Obj}, b ≠ a → t.heap.get? b = some o → (hidT t.heap (scrH a vs ns)).get? b = some o := fun n e => hidT_get e (scrH_ne n)
  have dic : ∀ {b : Addr} {o : Obj} {es : Array DictEntry} {ep : Nat}, t.heap.get? b = some o → o.data = .dict es ep → b ≠ a := fun e d z => by
    rw [z, ob] at e
    cases e
    cases d
  have spc : ∀ {b : Addr} {m : Str → Option Value}, t.heap.Ns b m → (hidT t.heap (scrH a vs ns)).Ns b m := fun {b m} ⟨o, es, ep, e, d, r⟩ => ⟨o, es, ep, see (dic e d) e, d, r⟩
  have kin : K.In (hidT t.heap (scrH a vs ns)) := fun b o e => see (fun z => by rw [z, Ka] at e; cases e) (KX b o e)
  have mod : Mod K mg (hidT t.heap (scrH a vs ns)) := ⟨kin, spc G, ⟨mb, spc B, hbb⟩, let ⟨mc, l1, l2⟩ := lim; ⟨mc, spc l1, l2⟩⟩
  have lay : HOk P w (scrH a vs ns) t.heap := fun b u e => by
    by_cases hb : b = a
    · subst hb
      rw [scrH_at] at e
      cases e
      exact ⟨ob, by rw [List.length_map]; exact hl, vs, _, vals_ints hi, ob⟩
    · rw [scrH_ne hb] at e
      cases e
  have env : Env0 P w K mg (hidT t.heap (scrH a vs ns)) callerA [] t (scrH a vs ns) := ⟨rfl, mod, fun b o e => of_hidT e, Nat.le_of_eq (hidT_size _ _), trivial, fun b hb => (by cases hb), lay, AllBare.of_eq gn⟩
  refine codeAny_mono ((F _ kin (spc G)).run callerA [] t (scrH a vs ns) ⟨[.ref a], []⟩ [.ref a] [.ref a] (fun v _ => v = .bl true) room rfl env (bd t (.ref a)) (.cons rfl .nil) q) fun r s' h => ?_
  rcases r with e | fl
  · exact h.elim
  · cases fl with
    | ret u =>
      obtain ⟨v, H', os, bare, un, lay', rv, rfl⟩ := h
      obtain rfl : u = Value.bool true := rv
      refine ⟨rfl, OldK.of_keep fun b o e => ?_, os, bare⟩
      by_cases hb : b = a
      · subst hb
        have z := (lay' b _ (un.frzs b _ _ scrH_at)).1
        rw [ob] at e
        cases e
        exact z
      · exact un.keep b o e (scrH_ne hb) (by simp [frs]) (by simp)
    | next => exact h.elim
    | brk => exact h.elim
    | cont => exact h.elim
theorem walk_g {l : PySem.W.OpenLaw} {n k : Nat} {q : Program} {loose : List Str} {XP : (Str → Option Value) → Heap → Prop} {YP : World → Heap → Prop} {d : DefRec} {x : Str}
    (hn : l.most = some n) (hn2 : n ≤ sizeLine) (hdf : d.params.defaults = []) (room : Room k callerA)
    (F : ∀ (w : World) (mg : Str → Option Value) (fa a : Addr) (h : Heap) (vs : List Value) (ns : List Int), YP w h → h.Ns mainGlobals mg → mg d.name = some (.ref fa) → h.get? a = some { cls := .type "list", data := .seq vs.toArray } → IntsAre vs ns → ns.length ≤ n →
      ∃ (K : Fg) (fd : FuncData) (sp : Sp), K.In h ∧ K.lookup a = none ∧ (∀ (s : Shared) (u : Value), BindsTo s fd ⟨[u], []⟩ [(x, u)]) ∧ sp [.ref a] (scrH a vs ns) (fun v _ => v = .bl true) E0 ∧
        ∀ base : Heap, K.In base → base.Ns mainGlobals mg → FG l.prog w K mg base k fa fd [x] sp) :
    PySem.W.WalkO q loose XP YP l.row.toRowW d [] (fun f vs => PySem.call f vs) := by
  refine Att.attach_call hn hdf fun w s₀ t mg mb fa o pm cd doc a vs ns G Y ho hd hcd hmg ob hi hl gn => ?_
  obtain ⟨K, fd, sp, KX, Ka, bd, hq, hF⟩ := F w mg fa a _ vs ns Y G.T.g hmg ob hi hl
  exact law_g KX Ka G.T.g G.T.b G.T.builtins G.T.nolimit gn ob hi (Nat.le_trans hl hn2) room hF bd hq
/-- the law's promise from the evaluator's answer -/
theorem sp_of {T : Tab} {K : Fg} {n lv ix : Nat} {a : Addr} {vs : List Value} {ns : List Int} {h : Hh} (e : evs T n .ca (lv, ix, [.ref 0], [.frz (ns.map D.int)]) = some (.bl true, h)) : rCa T K n lv ix [.ref a] (scrH a vs ns) (fun v _ => v = .bl true) E0 := by
  refine ⟨[a], [.frz (ns.map D.int)], [.ref 0], (.bl true, h), ⟨rfl, by simp, fun i o b e1 e2 => ?_⟩, ⟨.ref a, [], rfl, ⟨a, rfl, rfl⟩, rfl⟩, e, fun m' H' v x R r => r⟩
  cases i with
  | zero =>
    cases e1
    cases e2
    exact ⟨_, _, scrH_at, Rls.ints⟩
  | succ i => simp at e1
end Ez

/-! the head of rw_alikeagain_k02_whole_ways -/
namespace K02
open PySem PySem.Spec PyProof.Rows L2
def top (i : Nat) : Stmt := PySem.Challenge.pw_alikeagain_k02_whole_ways.main.body.getD i (.Pass ⟨0, 0, 0, 0⟩)
abbrev s0 : Stmt := top 7
theorem sc0 : FnScope ["thing", "least", "most"] ["thing", "least", "most"] (defScope s0) := ⟨rfl, rfl, rfl, by decide +kernel, rfl, by decide +kernel, by decide +kernel⟩
def d0 : He.DefD := ⟨("is_whole", none), "is_whole", "is_whole", defArgs s0, defBody s0, defScope s0, [], []⟩
abbrev s1 : Stmt := top 8
theorem sc1 : FnScope ["thing", "many", "one"] ["thing", "many"] (defScope s1) := ⟨rfl, rfl, rfl, by decide +kernel, rfl, by decide +kernel, by decide +kernel⟩
def d1 : He.DefD := ⟨("is_order", none), "is_order", "is_order", defArgs s1, defBody s1, defScope s1, [], []⟩
abbrev s2 : Stmt := top 9
theorem sc2 : FnScope ["net", "number", "order"] ["net"] (defScope s2) := ⟨rfl, rfl, rfl, by decide +kernel, rfl, by decide +kernel, by decide +kernel⟩
def d2 : He.DefD := ⟨("need_net", none), "need_net", "need_net", defArgs s2, defBody s2, defScope s2, [], []⟩
abbrev s3 : Stmt := top 10
theorem sc3 : FnScope ["net"] ["net"] (defScope s3) := ⟨rfl, rfl, rfl, by decide +kernel, rfl, by decide +kernel, by decide +kernel⟩
def d3 : He.DefD := ⟨("stations_of", none), "stations_of", "stations_of", defArgs s3, defBody s3, defScope s3, [], []⟩
abbrev s4 : Stmt := top 11
theorem sc4 : FnScope ["net"] ["net"] (defScope s4) := ⟨rfl, rfl, rfl, by decide +kernel, rfl, by decide +kernel, by decide +kernel⟩
def d4 : He.DefD := ⟨("rows_of", none), "rows_of", "rows_of", defArgs s4, defBody s4, defScope s4, [], []⟩
abbrev s5 : Stmt := top 12
theorem sc5 : FnScope ["net"] ["net"] (defScope s5) := ⟨rfl, rfl, rfl, by decide +kernel, rfl, by decide +kernel, by decide +kernel⟩
def d5 : He.DefD := ⟨("many_stations", none), "many_stations", "many_stations", defArgs s5, defBody s5, defScope s5, [], []⟩
abbrev s6 : Stmt := top 13
theorem sc6 : FnScope ["net"] ["net"] (defScope s6) := ⟨rfl, rfl, rfl, by decide +kernel, rfl, by decide +kernel, by decide +kernel⟩
def d6 : He.DefD := ⟨("many_rows", none), "many_rows", "many_rows", defArgs s6, defBody s6, defScope s6, [], []⟩
abbrev s7 : Stmt := top 14
theorem sc7 : FnScope ["net", "order", "wire"] ["net"] (defScope s7) := ⟨rfl, rfl, rfl, by decide +kernel, rfl, by decide +kernel, by decide +kernel⟩
def d7 : He.DefD := ⟨("turned", none), "turned", "turned", defArgs s7, defBody s7, defScope s7, [], []⟩
abbrev s8 : Stmt := top 15
theorem sc8 : FnScope ["net", "station"] ["net", "station"] (defScope s8) := ⟨rfl, rfl, rfl, by decide +kernel, rfl, by decide +kernel, by decide +kernel⟩
def d8 : He.DefD := ⟨("need_station", none), "need_station", "need_station", defArgs s8, defBody s8, defScope s8, [], []⟩
abbrev s9 : Stmt := top 16
theorem sc9 : FnScope ["net", "one", "other", "row", "rows", "wires", "way", "later", "fresh", "wire", "out", "longer"] ["net", "one", "other"] (defScope s9) := ⟨rfl, rfl, rfl, by decide +kernel, rfl, by decide +kernel, by decide +kernel⟩
def d9 : He.DefD := ⟨("ways_in", none), "ways_in", "ways_in", defArgs s9, defBody s9, defScope s9, [], []⟩
abbrev s10 : Stmt := top 17
theorem sc10 : FnScope ["net", "one", "other"] ["net", "one", "other"] (defScope s10) := ⟨rfl, rfl, rfl, by decide +kernel, rfl, by decide +kernel, by decide +kernel⟩
def d10 : He.DefD := ⟨("ways", none), "ways", "ways", defArgs s10, defBody s10, defScope s10, [], []⟩
abbrev s11 : Stmt := top 19
theorem sc11 : FnScope ["_law_cell", "_law_n", "_law_blend"] ["_law_cell", "_law_n"] (defScope s11) := ⟨rfl, rfl, rfl, by decide +kernel, rfl, by decide +kernel, by decide +kernel⟩
def d11 : He.DefD := ⟨("_law_mixed", none), "_law_mixed", "_law_mixed", defArgs s11, defBody s11, defScope s11, [], []⟩
abbrev s12 : Stmt := top 20
theorem sc12 : FnScope ["_law_script", "_law_found", "_law_n", "_law_cell"] ["_law_script"] (defScope s12) := ⟨rfl, rfl, rfl, by decide +kernel, rfl, by decide +kernel, by decide +kernel⟩
def d12 : He.DefD := ⟨("_law_folded", none), "_law_folded", "_law_folded", defArgs s12, defBody s12, defScope s12, [], []⟩
abbrev s13 : Stmt := top 21
theorem sc13 : FnScope ["_law_m", "_law_limit", "_law_n", "_law_lot", "_law_here", "_law_cell"] ["_law_m", "_law_limit"] (defScope s13) := ⟨rfl, rfl, rfl, by decide +kernel, rfl, by decide +kernel, by decide +kernel⟩
def d13 : He.DefD := ⟨("_law_draw", none), "_law_draw", "_law_draw", defArgs s13, defBody s13, defScope s13, [], []⟩
abbrev s14 : Stmt := top 22
theorem sc14 : FnScope ["_law_script", "_law_m", "_law_cell"] ["_law_script"] (defScope s14) := ⟨rfl, rfl, rfl, by decide +kernel, rfl, by decide +kernel, by decide +kernel⟩
def d14 : He.DefD := ⟨("_law_begun", none), "_law_begun", "_law_begun", defArgs s14, defBody s14, defScope s14, [], []⟩
abbrev s15 : Stmt := top 23
theorem sc15 : FnScope ["_law_got", "_law_due"] ["_law_got", "_law_due"] (defScope s15) := ⟨rfl, rfl, rfl, by decide +kernel, rfl, by decide +kernel, by decide +kernel⟩
def d15 : He.DefD := ⟨("_law_like", none), "_law_like", "_law_like", defArgs s15, defBody s15, defScope s15, [], []⟩
abbrev s16 : Stmt := top 24
theorem sc16 : FnScope ["_law_many", "_law_found", "_law_k"] ["_law_many"] (defScope s16) := ⟨rfl, rfl, rfl, by decide +kernel, rfl, by decide +kernel, by decide +kernel⟩
def d16 : He.DefD := ⟨("_law_power", none), "_law_power", "_law_power", defArgs s16, defBody s16, defScope s16, [], []⟩
abbrev s17 : Stmt := top 25
theorem sc17 : FnScope ["_law_m", "_law_many", "_law_left", "_law_found"] ["_law_m", "_law_many"] (defScope s17) := ⟨rfl, rfl, rfl, by decide +kernel, rfl, by decide +kernel, by decide +kernel⟩
def d17 : He.DefD := ⟨("_law_shuffled", none), "_law_shuffled", "_law_shuffled", defArgs s17, defBody s17, defScope s17, [], []⟩
abbrev s18 : Stmt := top 26
theorem sc18 : FnScope ["_law_m", "_law_many", "_law_kind", "_law_wire"] ["_law_m", "_law_many"] (defScope s18) := ⟨rfl, rfl, rfl, by decide +kernel, rfl, by decide +kernel, by decide +kernel⟩
def d18 : He.DefD := ⟨("_law_wiring", none), "_law_wiring", "_law_wiring", defArgs s18, defBody s18, defScope s18, [], []⟩
abbrev s19 : Stmt := top 27
theorem sc19 : FnScope ["_law_m", "_law_most", "_law_deep", "_law_bits_so", "_law_row"] ["_law_m", "_law_most", "_law_deep"] (defScope s19) := ⟨rfl, rfl, rfl, by decide +kernel, rfl, by decide +kernel, by decide +kernel⟩
def d19 : He.DefD := ⟨("_law_net", none), "_law_net", "_law_net", defArgs s19, defBody s19, defScope s19, [], []⟩
abbrev s20 : Stmt := top 28
theorem sc20 : FnScope ["_law_net_here", "_law_one", "_law_other", "_law_found", "_law_row", "_law_longer", "_law_way", "_law_here", "_law_side"] ["_law_net_here", "_law_one", "_law_other"] (defScope s20) := ⟨rfl, rfl, rfl, by decide +kernel, rfl, by decide +kernel, by decide +kernel⟩
def d20 : He.DefD := ⟨("_law_ways", none), "_law_ways", "_law_ways", defArgs s20, defBody s20, defScope s20, [], []⟩
abbrev s21 : Stmt := top 29
theorem sc21 : FnScope ["_law_net_here", "_law_way", "_law_found", "_law_row"] ["_law_net_here", "_law_way"] (defScope s21) := ⟨rfl, rfl, rfl, by decide +kernel, rfl, by decide +kernel, by decide +kernel⟩
def d21 : He.DefD := ⟨("_law_back", none), "_law_back", "_law_back", defArgs s21, defBody s21, defScope s21, [], []⟩
abbrev s22 : Stmt := top 30
theorem sc22 : FnScope ["_law_net_here", "_law_spots", "_law_got", "_law_one", "_law_many", "_law_deep", "_law_far", "_law_total", "_law_other", "_law_due", "_law_back_here", "_law_way"] ["_law_net_here", "_law_spots"] (defScope s22) := ⟨rfl, rfl, rfl, by decide +kernel, rfl, by decide +kernel, by decide +kernel⟩
def d22 : He.DefD := ⟨("_law_right", none), "_law_right", "_law_right", defArgs s22, defBody s22, defScope s22, [], []⟩
abbrev s23 : Stmt := top 31
theorem sc23 : FnScope ["_law_script", "_law_m", "_law_turn", "_law_told", "_law_due", "_law_net_here", "_law_spots", "_law_kept_so", "_law_many"] ["_law_script"] (defScope s23) := ⟨rfl, rfl, rfl, by decide +kernel, rfl, by decide +kernel, by decide +kernel⟩
def d23 : He.DefD := ⟨("law", none), "law", "law", defArgs s23, defBody s23, defScope s23, [], []⟩
def fn : List He.DefD := [d0, d1, d2, d3, d4, d5, d6, d7, d8, d9, d10, d11, d12, d13, d14, d15, d16, d17, d18, d19, d20, d21, d22, d23]
def fa_0 : List He.Fa := [.glo "is_whole", .glo "is_order", .glo "need_net", .glo "stations_of", .glo "rows_of", .glo "many_stations", .glo "many_rows", .glo "turned", .glo "need_station", .glo "ways_in", .glo "ways", .glo "_law_mixed", .glo "_law_folded", .glo "_law_draw", .glo "_law_begun", .glo "_law_like", .glo "_law_power", .glo "_law_shuffled", .glo "_law_wiring", .glo "_law_net", .glo "_law_ways", .glo "_law_back", .glo "_law_right", .glo "law", .free "len", .free "all", .free "any", .free "int", .free "list", .free "tuple"]
def fa_1 : List He.Fa := [.free "max", .free "min", .free "sum", .free "sorted", .free "repr", .free "isinstance", .free "range", .free "enumerate", .free "zip", .free "bool", .free "str", .free "dict", .int "MOST_BITS" 3, .int "MOST_WIRINGS" 3]
def fa : List He.Fa := fa_0 ++ fa_1
def loose_0 : List PySem.Str := ["AlikeError", "BadNet", "BadStation", "MOST_BITS", "MOST_WIRINGS", "is_whole", "is_order", "need_net", "stations_of", "rows_of", "many_stations", "many_rows", "turned", "need_station", "ways_in", "ways", "_law_mixed", "_law_folded", "_law_draw", "_law_begun", "_law_like", "_law_power", "_law_shuffled", "_law_wiring", "_law_net", "_law_ways", "_law_back", "_law_right"]
def loose : List PySem.Str := loose_0
def fm : List (Str × Nat) := [("is_whole", 0), ("is_order", 1), ("need_net", 2), ("stations_of", 3), ("rows_of", 4), ("many_stations", 5), ("many_rows", 6), ("turned", 7), ("need_station", 8), ("ways_in", 9), ("ways", 10), ("_law_mixed", 11), ("_law_folded", 12), ("_law_draw", 13), ("_law_begun", 14), ("_law_like", 15), ("_law_power", 16), ("_law_shuffled", 17), ("_law_wiring", 18), ("_law_net", 19), ("_law_ways", 20), ("_law_back", 21), ("_law_right", 22), ("law", 23)]
def cs : List (Str × Ez.D) := [("MOST_BITS", (Ez.D.int 3)), ("MOST_WIRINGS", (Ez.D.int 3))]
theorem ck0 : Ez.all2 (Ez.ckS ⟨["thing", "least", "most"], fm, cs⟩ 60 (defScope s0)) (defBody s0) b0 = true := by decide +kernel
theorem ck1 : Ez.all2 (Ez.ckS ⟨["thing", "many", "one"], fm, cs⟩ 60 (defScope s1)) (defBody s1) b1 = true := by decide +kernel
theorem ck2 : Ez.all2 (Ez.ckS ⟨["net", "number", "order"], fm, cs⟩ 60 (defScope s2)) (defBody s2) b2 = true := by decide +kernel
theorem ck3 : Ez.all2 (Ez.ckS ⟨["net"], fm, cs⟩ 60 (defScope s3)) (defBody s3) b3 = true := by decide +kernel
theorem ck4 : Ez.all2 (Ez.ckS ⟨["net"], fm, cs⟩ 60 (defScope s4)) (defBody s4) b4 = true := by decide +kernel
theorem ck5 : Ez.all2 (Ez.ckS ⟨["net"], fm, cs⟩ 60 (defScope s5)) (defBody s5) b5 = true := by decide +kernel
theorem ck6 : Ez.all2 (Ez.ckS ⟨["net"], fm, cs⟩ 60 (defScope s6)) (defBody s6) b6 = true := by decide +kernel
theorem ck7 : Ez.all2 (Ez.ckS ⟨["net", "order", "wire"], fm, cs⟩ 60 (defScope s7)) (defBody s7) b7 = true := by decide +kernel
theorem ck8 : Ez.all2 (Ez.ckS ⟨["net", "station"], fm, cs⟩ 60 (defScope s8)) (defBody s8) b8 = true := by decide +kernel
theorem ck9 : Ez.all2 (Ez.ckS ⟨["net", "one", "other", "row", "rows", "wires", "way", "later", "fresh", "wire", "out", "longer"], fm, cs⟩ 60 (defScope s9)) (defBody s9) b9 = true := by decide +kernel
theorem ck10 : Ez.all2 (Ez.ckS ⟨["net", "one", "other"], fm, cs⟩ 60 (defScope s10)) (defBody s10) b10 = true := by decide +kernel
theorem ck11 : Ez.all2 (Ez.ckS ⟨["_law_cell", "_law_n", "_law_blend"], fm, cs⟩ 60 (defScope s11)) (defBody s11) b11 = true := by decide +kernel
theorem ck12 : Ez.all2 (Ez.ckS ⟨["_law_script", "_law_found", "_law_n", "_law_cell"], fm, cs⟩ 60 (defScope s12)) (defBody s12) b12 = true := by decide +kernel
theorem ck13 : Ez.all2 (Ez.ckS ⟨["_law_m", "_law_limit", "_law_n", "_law_lot", "_law_here", "_law_cell"], fm, cs⟩ 60 (defScope s13)) (defBody s13) b13 = true := by decide +kernel
theorem ck14 : Ez.all2 (Ez.ckS ⟨["_law_script", "_law_m", "_law_cell"], fm, cs⟩ 60 (defScope s14)) (defBody s14) b14 = true := by decide +kernel
theorem ck15 : Ez.all2 (Ez.ckS ⟨["_law_got", "_law_due"], fm, cs⟩ 60 (defScope s15)) (defBody s15) b15 = true := by decide +kernel
theorem ck16 : Ez.all2 (Ez.ckS ⟨["_law_many", "_law_found", "_law_k"], fm, cs⟩ 60 (defScope s16)) (defBody s16) b16 = true := by decide +kernel
theorem ck17 : Ez.all2 (Ez.ckS ⟨["_law_m", "_law_many", "_law_left", "_law_found"], fm, cs⟩ 60 (defScope s17)) (defBody s17) b17 = true := by decide +kernel
theorem ck18 : Ez.all2 (Ez.ckS ⟨["_law_m", "_law_many", "_law_kind", "_law_wire"], fm, cs⟩ 60 (defScope s18)) (defBody s18) b18 = true := by decide +kernel
theorem ck19 : Ez.all2 (Ez.ckS ⟨["_law_m", "_law_most", "_law_deep", "_law_bits_so", "_law_row"], fm, cs⟩ 60 (defScope s19)) (defBody s19) b19 = true := by decide +kernel
theorem ck20 : Ez.all2 (Ez.ckS ⟨["_law_net_here", "_law_one", "_law_other", "_law_found", "_law_row", "_law_longer", "_law_way", "_law_here", "_law_side"], fm, cs⟩ 60 (defScope s20)) (defBody s20) b20 = true := by decide +kernel
theorem ck21 : Ez.all2 (Ez.ckS ⟨["_law_net_here", "_law_way", "_law_found", "_law_row"], fm, cs⟩ 60 (defScope s21)) (defBody s21) b21 = true := by decide +kernel
theorem ck22 : Ez.all2 (Ez.ckS ⟨["_law_net_here", "_law_spots", "_law_got", "_law_one", "_law_many", "_law_deep", "_law_far", "_law_total", "_law_other", "_law_due", "_law_back_here", "_law_way"], fm, cs⟩ 60 (defScope s22)) (defBody s22) b22 = true := by decide +kernel
theorem ck23 : Ez.all2 (Ez.ckS ⟨["_law_script", "_law_m", "_law_turn", "_law_told", "_law_due", "_law_net_here", "_law_spots", "_law_kept_so", "_law_many"], fm, cs⟩ 60 (defScope s23)) (defBody s23) b23 = true := by decide +kernel
abbrev R : PySem.W.OpenRow := PySem.W.OpenLaw.row PySem.Challenge.rw_alikeagain_k02_whole_ways
abbrev hk : PySem.W.Hook := He.hookD 4 fa fn
def ob (s : PySem.W.SharedT) : He.AlD := He.obsDG 4 fa fn (HandSHeadRun.getT s)
theorem ob_eq (s : PySem.W.SharedT) : ob s = hk.obs s.abs := He.obsDG_eq (HandSHeadRun.getT_eq s)
theorem run (w : World) : HandSHeadRun.RunEq R (PySem.W.view R.prog [31]) hk ob 3000 loose w := by
  intro os
  kernel_rfl
section
variable {K : PySem.W.Frag} {h : Heap} {mg : Str → Option Value}
theorem md (X : K.In h) (G : h.Ns mainGlobals mg) (c : He.SaysD fa fn K) (K2 : PySem.W.Frag) (N : List Str) : Ez.Md K2 mg ⟨N, fm, cs⟩ := by
  refine ⟨fun x hx => ?_, fun p hp => ?_⟩
  · simp only [Ez.bnames, List.mem_cons, List.not_mem_nil, or_false] at hx
    rcases hx with rfl | rfl | rfl | rfl | rfl | rfl | rfl | rfl | rfl | rfl | rfl | rfl | rfl | rfl | rfl | rfl | rfl | rfl
    · exact He.free_ok X G (c.fact 24 (f := .free "len") rfl)
    · exact He.free_ok X G (c.fact 25 (f := .free "all") rfl)
    · exact He.free_ok X G (c.fact 26 (f := .free "any") rfl)
    · exact He.free_ok X G (c.fact 27 (f := .free "int") rfl)
    · exact He.free_ok X G (c.fact 28 (f := .free "list") rfl)
    · exact He.free_ok X G (c.fact 29 (f := .free "tuple") rfl)
    · exact He.free_ok X G (c.fact 30 (f := .free "max") rfl)
    · exact He.free_ok X G (c.fact 31 (f := .free "min") rfl)
    · exact He.free_ok X G (c.fact 32 (f := .free "sum") rfl)
    · exact He.free_ok X G (c.fact 33 (f := .free "sorted") rfl)
    · exact He.free_ok X G (c.fact 34 (f := .free "repr") rfl)
    · exact He.free_ok X G (c.fact 35 (f := .free "isinstance") rfl)
    · exact He.free_ok X G (c.fact 36 (f := .free "range") rfl)
    · exact He.free_ok X G (c.fact 37 (f := .free "enumerate") rfl)
    · exact He.free_ok X G (c.fact 38 (f := .free "zip") rfl)
    · exact He.free_ok X G (c.fact 39 (f := .free "bool") rfl)
    · exact He.free_ok X G (c.fact 40 (f := .free "str") rfl)
    · exact He.free_ok X G (c.fact 41 (f := .free "dict") rfl)
  · simp only [cs, List.mem_cons, List.not_mem_nil, or_false] at hp
    rcases hp with rfl | rfl
    · obtain ⟨t, e⟩ := He.int_ok X G (c.fact 42 (f := .int "MOST_BITS" 3) rfl)
      exact ⟨rfl, _, e, t, rfl⟩
    · obtain ⟨t, e⟩ := He.int_ok X G (c.fact 43 (f := .int "MOST_WIRINGS" 3) rfl)
      exact ⟨rfl, _, e, t, rfl⟩
theorem ok0 (X : K.In h) (G : h.Ns mainGlobals mg) (c : He.SaysD fa fn K) {a : Addr} {vs : List Value} (ha : h.get? a = some { cls := .type "list", data := .seq vs.toArray }) : Ez.DefOk T (Ez.Kx K a) mg fm cs ("is_whole", 0) := by
  obtain ⟨fd, F⟩ := c.def_ 0 (d := d0) rfl
  have F2 : FunD (Ez.Kx K a) "is_whole" "is_whole" (defArgs s0) (defBody s0) (defScope s0) [] [] (He.fAd K d0.at_) fd := Ez.funD_x X ha F
  exact ⟨_, fd, _, _, _, _, _, _, ["thing", "least", "most"], _, 60, F2, He.glo_ok X G (c.fact 0 (f := .glo "is_whole") rfl), F2.bindsN (fun _ _ _ _ _ _ us hl => match us, hl with | [_, _, _], _ => rfl), sc0, rfl, rfl, rfl, ck0⟩
theorem ok1 (X : K.In h) (G : h.Ns mainGlobals mg) (c : He.SaysD fa fn K) {a : Addr} {vs : List Value} (ha : h.get? a = some { cls := .type "list", data := .seq vs.toArray }) : Ez.DefOk T (Ez.Kx K a) mg fm cs ("is_order", 1) := by
  obtain ⟨fd, F⟩ := c.def_ 1 (d := d1) rfl
  have F2 : FunD (Ez.Kx K a) "is_order" "is_order" (defArgs s1) (defBody s1) (defScope s1) [] [] (He.fAd K d1.at_) fd := Ez.funD_x X ha F
  exact ⟨_, fd, _, _, _, _, _, _, ["thing", "many"], _, 60, F2, He.glo_ok X G (c.fact 1 (f := .glo "is_order") rfl), F2.bindsN (fun _ _ _ _ _ _ us hl => match us, hl with | [_, _], _ => rfl), sc1, rfl, rfl, rfl, ck1⟩
theorem ok2 (X : K.In h) (G : h.Ns mainGlobals mg) (c : He.SaysD fa fn K) {a : Addr} {vs : List Value} (ha : h.get? a = some { cls := .type "list", data := .seq vs.toArray }) : Ez.DefOk T (Ez.Kx K a) mg fm cs ("need_net", 2) := by
  obtain ⟨fd, F⟩ := c.def_ 2 (d := d2) rfl
  have F2 : FunD (Ez.Kx K a) "need_net" "need_net" (defArgs s2) (defBody s2) (defScope s2) [] [] (He.fAd K d2.at_) fd := Ez.funD_x X ha F
  exact ⟨_, fd, _, _, _, _, _, _, ["net"], _, 60, F2, He.glo_ok X G (c.fact 2 (f := .glo "need_net") rfl), F2.bindsN (fun _ _ _ _ _ _ us hl => match us, hl with | [_], _ => rfl), sc2, rfl, rfl, rfl, ck2⟩
theorem ok3 (X : K.In h) (G : h.Ns mainGlobals mg) (c : He.SaysD fa fn K) {a : Addr} {vs : List Value} (ha : h.get? a = some { cls := .type "list", data := .seq vs.toArray }) : Ez.DefOk T (Ez.Kx K a) mg fm cs ("stations_of", 3) := by
  obtain ⟨fd, F⟩ := c.def_ 3 (d := d3) rfl
  have F2 : FunD (Ez.Kx K a) "stations_of" "stations_of" (defArgs s3) (defBody s3) (defScope s3) [] [] (He.fAd K d3.at_) fd := Ez.funD_x X ha F
  exact ⟨_, fd, _, _, _, _, _, _, ["net"], _, 60, F2, He.glo_ok X G (c.fact 3 (f := .glo "stations_of") rfl), F2.bindsN (fun _ _ _ _ _ _ us hl => match us, hl with | [_], _ => rfl), sc3, rfl, rfl, rfl, ck3⟩
theorem ok4 (X : K.In h) (G : h.Ns mainGlobals mg) (c : He.SaysD fa fn K) {a : Addr} {vs : List Value} (ha : h.get? a = some { cls := .type "list", data := .seq vs.toArray }) : Ez.DefOk T (Ez.Kx K a) mg fm cs ("rows_of", 4) := by
  obtain ⟨fd, F⟩ := c.def_ 4 (d := d4) rfl
  have F2 : FunD (Ez.Kx K a) "rows_of" "rows_of" (defArgs s4) (defBody s4) (defScope s4) [] [] (He.fAd K d4.at_) fd := Ez.funD_x X ha F
  exact ⟨_, fd, _, _, _, _, _, _, ["net"], _, 60, F2, He.glo_ok X G (c.fact 4 (f := .glo "rows_of") rfl), F2.bindsN (fun _ _ _ _ _ _ us hl => match us, hl with | [_], _ => rfl), sc4, rfl, rfl, rfl, ck4⟩
theorem ok5 (X : K.In h) (G : h.Ns mainGlobals mg) (c : He.SaysD fa fn K) {a : Addr} {vs : List Value} (ha : h.get? a = some { cls := .type "list", data := .seq vs.toArray }) : Ez.DefOk T (Ez.Kx K a) mg fm cs ("many_stations", 5) := by
  obtain ⟨fd, F⟩ := c.def_ 5 (d := d5) rfl
  have F2 : FunD (Ez.Kx K a) "many_stations" "many_stations" (defArgs s5) (defBody s5) (defScope s5) [] [] (He.fAd K d5.at_) fd := Ez.funD_x X ha F
  exact ⟨_, fd, _, _, _, _, _, _, ["net"], _, 60, F2, He.glo_ok X G (c.fact 5 (f := .glo "many_stations") rfl), F2.bindsN (fun _ _ _ _ _ _ us hl => match us, hl with | [_], _ => rfl), sc5, rfl, rfl, rfl, ck5⟩
theorem ok6 (X : K.In h) (G : h.Ns mainGlobals mg) (c : He.SaysD fa fn K) {a : Addr} {vs : List Value} (ha : h.get? a = some { cls := .type "list", data := .seq vs.toArray }) : Ez.DefOk T (Ez.Kx K a) mg fm cs ("many_rows", 6) := by
  obtain ⟨fd, F⟩ := c.def_ 6 (d := d6) rfl
  have F2 : FunD (Ez.Kx K a) "many_rows" "many_rows" (defArgs s6) (defBody s6) (defScope s6) [] [] (He.fAd K d6.at_) fd := Ez.funD_x X ha F
  exact ⟨_, fd, _, _, _, _, _, _, ["net"], _, 60, F2, He.glo_ok X G (c.fact 6 (f := .glo "many_rows") rfl), F2.bindsN (fun _ _ _ _ _ _ us hl => match us, hl with | [_], _ => rfl), sc6, rfl, rfl, rfl, ck6⟩
theorem ok7 (X : K.In h) (G : h.Ns mainGlobals mg) (c : He.SaysD fa fn K) {a : Addr} {vs : List Value} (ha : h.get? a = some { cls := .type "list", data := .seq vs.toArray }) : Ez.DefOk T (Ez.Kx K a) mg fm cs ("turned", 7) := by
  obtain ⟨fd, F⟩ := c.def_ 7 (d := d7) rfl
  have F2 : FunD (Ez.Kx K a) "turned" "turned" (defArgs s7) (defBody s7) (defScope s7) [] [] (He.fAd K d7.at_) fd := Ez.funD_x X ha F
  exact ⟨_, fd, _, _, _, _, _, _, ["net"], _, 60, F2, He.glo_ok X G (c.fact 7 (f := .glo "turned") rfl), F2.bindsN (fun _ _ _ _ _ _ us hl => match us, hl with | [_], _ => rfl), sc7, rfl, rfl, rfl, ck7⟩
theorem ok8 (X : K.In h) (G : h.Ns mainGlobals mg) (c : He.SaysD fa fn K) {a : Addr} {vs : List Value} (ha : h.get? a = some { cls := .type "list", data := .seq vs.toArray }) : Ez.DefOk T (Ez.Kx K a) mg fm cs ("need_station", 8) := by
  obtain ⟨fd, F⟩ := c.def_ 8 (d := d8) rfl
  have F2 : FunD (Ez.Kx K a) "need_station" "need_station" (defArgs s8) (defBody s8) (defScope s8) [] [] (He.fAd K d8.at_) fd := Ez.funD_x X ha F
  exact ⟨_, fd, _, _, _, _, _, _, ["net", "station"], _, 60, F2, He.glo_ok X G (c.fact 8 (f := .glo "need_station") rfl), F2.bindsN (fun _ _ _ _ _ _ us hl => match us, hl with | [_, _], _ => rfl), sc8, rfl, rfl, rfl, ck8⟩
theorem ok9 (X : K.In h) (G : h.Ns mainGlobals mg) (c : He.SaysD fa fn K) {a : Addr} {vs : List Value} (ha : h.get? a = some { cls := .type "list", data := .seq vs.toArray }) : Ez.DefOk T (Ez.Kx K a) mg fm cs ("ways_in", 9) := by
  obtain ⟨fd, F⟩ := c.def_ 9 (d := d9) rfl
  have F2 : FunD (Ez.Kx K a) "ways_in" "ways_in" (defArgs s9) (defBody s9) (defScope s9) [] [] (He.fAd K d9.at_) fd := Ez.funD_x X ha F
  exact ⟨_, fd, _, _, _, _, _, _, ["net", "one", "other"], _, 60, F2, He.glo_ok X G (c.fact 9 (f := .glo "ways_in") rfl), F2.bindsN (fun _ _ _ _ _ _ us hl => match us, hl with | [_, _, _], _ => rfl), sc9, rfl, rfl, rfl, ck9⟩
theorem ok10 (X : K.In h) (G : h.Ns mainGlobals mg) (c : He.SaysD fa fn K) {a : Addr} {vs : List Value} (ha : h.get? a = some { cls := .type "list", data := .seq vs.toArray }) : Ez.DefOk T (Ez.Kx K a) mg fm cs ("ways", 10) := by
  obtain ⟨fd, F⟩ := c.def_ 10 (d := d10) rfl
  have F2 : FunD (Ez.Kx K a) "ways" "ways" (defArgs s10) (defBody s10) (defScope s10) [] [] (He.fAd K d10.at_) fd := Ez.funD_x X ha F
  exact ⟨_, fd, _, _, _, _, _, _, ["net", "one", "other"], _, 60, F2, He.glo_ok X G (c.fact 10 (f := .glo "ways") rfl), F2.bindsN (fun _ _ _ _ _ _ us hl => match us, hl with | [_, _, _], _ => rfl), sc10, rfl, rfl, rfl, ck10⟩
theorem ok11 (X : K.In h) (G : h.Ns mainGlobals mg) (c : He.SaysD fa fn K) {a : Addr} {vs : List Value} (ha : h.get? a = some { cls := .type "list", data := .seq vs.toArray }) : Ez.DefOk T (Ez.Kx K a) mg fm cs ("_law_mixed", 11) := by
  obtain ⟨fd, F⟩ := c.def_ 11 (d := d11) rfl
  have F2 : FunD (Ez.Kx K a) "_law_mixed" "_law_mixed" (defArgs s11) (defBody s11) (defScope s11) [] [] (He.fAd K d11.at_) fd := Ez.funD_x X ha F
  exact ⟨_, fd, _, _, _, _, _, _, ["_law_cell", "_law_n"], _, 60, F2, He.glo_ok X G (c.fact 11 (f := .glo "_law_mixed") rfl), F2.bindsN (fun _ _ _ _ _ _ us hl => match us, hl with | [_, _], _ => rfl), sc11, rfl, rfl, rfl, ck11⟩
theorem ok12 (X : K.In h) (G : h.Ns mainGlobals mg) (c : He.SaysD fa fn K) {a : Addr} {vs : List Value} (ha : h.get? a = some { cls := .type "list", data := .seq vs.toArray }) : Ez.DefOk T (Ez.Kx K a) mg fm cs ("_law_folded", 12) := by
  obtain ⟨fd, F⟩ := c.def_ 12 (d := d12) rfl
  have F2 : FunD (Ez.Kx K a) "_law_folded" "_law_folded" (defArgs s12) (defBody s12) (defScope s12) [] [] (He.fAd K d12.at_) fd := Ez.funD_x X ha F
  exact ⟨_, fd, _, _, _, _, _, _, ["_law_script"], _, 60, F2, He.glo_ok X G (c.fact 12 (f := .glo "_law_folded") rfl), F2.bindsN (fun _ _ _ _ _ _ us hl => match us, hl with | [_], _ => rfl), sc12, rfl, rfl, rfl, ck12⟩
theorem ok13 (X : K.In h) (G : h.Ns mainGlobals mg) (c : He.SaysD fa fn K) {a : Addr} {vs : List Value} (ha : h.get? a = some { cls := .type "list", data := .seq vs.toArray }) : Ez.DefOk T (Ez.Kx K a) mg fm cs ("_law_draw", 13) := by
  obtain ⟨fd, F⟩ := c.def_ 13 (d := d13) rfl
  have F2 : FunD (Ez.Kx K a) "_law_draw" "_law_draw" (defArgs s13) (defBody s13) (defScope s13) [] [] (He.fAd K d13.at_) fd := Ez.funD_x X ha F
  exact ⟨_, fd, _, _, _, _, _, _, ["_law_m", "_law_limit"], _, 60, F2, He.glo_ok X G (c.fact 13 (f := .glo "_law_draw") rfl), F2.bindsN (fun _ _ _ _ _ _ us hl => match us, hl with | [_, _], _ => rfl), sc13, rfl, rfl, rfl, ck13⟩
theorem ok14 (X : K.In h) (G : h.Ns mainGlobals mg) (c : He.SaysD fa fn K) {a : Addr} {vs : List Value} (ha : h.get? a = some { cls := .type "list", data := .seq vs.toArray }) : Ez.DefOk T (Ez.Kx K a) mg fm cs ("_law_begun", 14) := by
  obtain ⟨fd, F⟩ := c.def_ 14 (d := d14) rfl
  have F2 : FunD (Ez.Kx K a) "_law_begun" "_law_begun" (defArgs s14) (defBody s14) (defScope s14) [] [] (He.fAd K d14.at_) fd := Ez.funD_x X ha F
  exact ⟨_, fd, _, _, _, _, _, _, ["_law_script"], _, 60, F2, He.glo_ok X G (c.fact 14 (f := .glo "_law_begun") rfl), F2.bindsN (fun _ _ _ _ _ _ us hl => match us, hl with | [_], _ => rfl), sc14, rfl, rfl, rfl, ck14⟩
theorem ok15 (X : K.In h) (G : h.Ns mainGlobals mg) (c : He.SaysD fa fn K) {a : Addr} {vs : List Value} (ha : h.get? a = some { cls := .type "list", data := .seq vs.toArray }) : Ez.DefOk T (Ez.Kx K a) mg fm cs ("_law_like", 15) := by
  obtain ⟨fd, F⟩ := c.def_ 15 (d := d15) rfl
  have F2 : FunD (Ez.Kx K a) "_law_like" "_law_like" (defArgs s15) (defBody s15) (defScope s15) [] [] (He.fAd K d15.at_) fd := Ez.funD_x X ha F
  exact ⟨_, fd, _, _, _, _, _, _, ["_law_got", "_law_due"], _, 60, F2, He.glo_ok X G (c.fact 15 (f := .glo "_law_like") rfl), F2.bindsN (fun _ _ _ _ _ _ us hl => match us, hl with | [_, _], _ => rfl), sc15, rfl, rfl, rfl, ck15⟩
theorem ok16 (X : K.In h) (G : h.Ns mainGlobals mg) (c : He.SaysD fa fn K) {a : Addr} {vs : List Value} (ha : h.get? a = some { cls := .type "list", data := .seq vs.toArray }) : Ez.DefOk T (Ez.Kx K a) mg fm cs ("_law_power", 16) := by
  obtain ⟨fd, F⟩ := c.def_ 16 (d := d16) rfl
  have F2 : FunD (Ez.Kx K a) "_law_power" "_law_power" (defArgs s16) (defBody s16) (defScope s16) [] [] (He.fAd K d16.at_) fd := Ez.funD_x X ha F
  exact ⟨_, fd, _, _, _, _, _, _, ["_law_many"], _, 60, F2, He.glo_ok X G (c.fact 16 (f := .glo "_law_power") rfl), F2.bindsN (fun _ _ _ _ _ _ us hl => match us, hl with | [_], _ => rfl), sc16, rfl, rfl, rfl, ck16⟩
theorem ok17 (X : K.In h) (G : h.Ns mainGlobals mg) (c : He.SaysD fa fn K) {a : Addr} {vs : List Value} (ha : h.get? a = some { cls := .type "list", data := .seq vs.toArray }) : Ez.DefOk T (Ez.Kx K a) mg fm cs ("_law_shuffled", 17) := by
  obtain ⟨fd, F⟩ := c.def_ 17 (d := d17) rfl
  have F2 : FunD (Ez.Kx K a) "_law_shuffled" "_law_shuffled" (defArgs s17) (defBody s17) (defScope s17) [] [] (He.fAd K d17.at_) fd := Ez.funD_x X ha F
  exact ⟨_, fd, _, _, _, _, _, _, ["_law_m", "_law_many"], _, 60, F2, He.glo_ok X G (c.fact 17 (f := .glo "_law_shuffled") rfl), F2.bindsN (fun _ _ _ _ _ _ us hl => match us, hl with | [_, _], _ => rfl), sc17, rfl, rfl, rfl, ck17⟩
theorem ok18 (X : K.In h) (G : h.Ns mainGlobals mg) (c : He.SaysD fa fn K) {a : Addr} {vs : List Value} (ha : h.get? a = some { cls := .type "list", data := .seq vs.toArray }) : Ez.DefOk T (Ez.Kx K a) mg fm cs ("_law_wiring", 18) := by
  obtain ⟨fd, F⟩ := c.def_ 18 (d := d18) rfl
  have F2 : FunD (Ez.Kx K a) "_law_wiring" "_law_wiring" (defArgs s18) (defBody s18) (defScope s18) [] [] (He.fAd K d18.at_) fd := Ez.funD_x X ha F
  exact ⟨_, fd, _, _, _, _, _, _, ["_law_m", "_law_many"], _, 60, F2, He.glo_ok X G (c.fact 18 (f := .glo "_law_wiring") rfl), F2.bindsN (fun _ _ _ _ _ _ us hl => match us, hl with | [_, _], _ => rfl), sc18, rfl, rfl, rfl, ck18⟩
theorem ok19 (X : K.In h) (G : h.Ns mainGlobals mg) (c : He.SaysD fa fn K) {a : Addr} {vs : List Value} (ha : h.get? a = some { cls := .type "list", data := .seq vs.toArray }) : Ez.DefOk T (Ez.Kx K a) mg fm cs ("_law_net", 19) := by
  obtain ⟨fd, F⟩ := c.def_ 19 (d := d19) rfl
  have F2 : FunD (Ez.Kx K a) "_law_net" "_law_net" (defArgs s19) (defBody s19) (defScope s19) [] [] (He.fAd K d19.at_) fd := Ez.funD_x X ha F
  exact ⟨_, fd, _, _, _, _, _, _, ["_law_m", "_law_most", "_law_deep"], _, 60, F2, He.glo_ok X G (c.fact 19 (f := .glo "_law_net") rfl), F2.bindsN (fun _ _ _ _ _ _ us hl => match us, hl with | [_, _, _], _ => rfl), sc19, rfl, rfl, rfl, ck19⟩
theorem ok20 (X : K.In h) (G : h.Ns mainGlobals mg) (c : He.SaysD fa fn K) {a : Addr} {vs : List Value} (ha : h.get? a = some { cls := .type "list", data := .seq vs.toArray }) : Ez.DefOk T (Ez.Kx K a) mg fm cs ("_law_ways", 20) := by
  obtain ⟨fd, F⟩ := c.def_ 20 (d := d20) rfl
  have F2 : FunD (Ez.Kx K a) "_law_ways" "_law_ways" (defArgs s20) (defBody s20) (defScope s20) [] [] (He.fAd K d20.at_) fd := Ez.funD_x X ha F
  exact ⟨_, fd, _, _, _, _, _, _, ["_law_net_here", "_law_one", "_law_other"], _, 60, F2, He.glo_ok X G (c.fact 20 (f := .glo "_law_ways") rfl), F2.bindsN (fun _ _ _ _ _ _ us hl => match us, hl with | [_, _, _], _ => rfl), sc20, rfl, rfl, rfl, ck20⟩
theorem ok21 (X : K.In h) (G : h.Ns mainGlobals mg) (c : He.SaysD fa fn K) {a : Addr} {vs : List Value} (ha : h.get? a = some { cls := .type "list", data := .seq vs.toArray }) : Ez.DefOk T (Ez.Kx K a) mg fm cs ("_law_back", 21) := by
  obtain ⟨fd, F⟩ := c.def_ 21 (d := d21) rfl
  have F2 : FunD (Ez.Kx K a) "_law_back" "_law_back" (defArgs s21) (defBody s21) (defScope s21) [] [] (He.fAd K d21.at_) fd := Ez.funD_x X ha F
  exact ⟨_, fd, _, _, _, _, _, _, ["_law_net_here", "_law_way"], _, 60, F2, He.glo_ok X G (c.fact 21 (f := .glo "_law_back") rfl), F2.bindsN (fun _ _ _ _ _ _ us hl => match us, hl with | [_, _], _ => rfl), sc21, rfl, rfl, rfl, ck21⟩
theorem ok22 (X : K.In h) (G : h.Ns mainGlobals mg) (c : He.SaysD fa fn K) {a : Addr} {vs : List Value} (ha : h.get? a = some { cls := .type "list", data := .seq vs.toArray }) : Ez.DefOk T (Ez.Kx K a) mg fm cs ("_law_right", 22) := by
  obtain ⟨fd, F⟩ := c.def_ 22 (d := d22) rfl
  have F2 : FunD (Ez.Kx K a) "_law_right" "_law_right" (defArgs s22) (defBody s22) (defScope s22) [] [] (He.fAd K d22.at_) fd := Ez.funD_x X ha F
  exact ⟨_, fd, _, _, _, _, _, _, ["_law_net_here", "_law_spots"], _, 60, F2, He.glo_ok X G (c.fact 22 (f := .glo "_law_right") rfl), F2.bindsN (fun _ _ _ _ _ _ us hl => match us, hl with | [_, _], _ => rfl), sc22, rfl, rfl, rfl, ck22⟩
theorem ok23 (X : K.In h) (G : h.Ns mainGlobals mg) (c : He.SaysD fa fn K) {a : Addr} {vs : List Value} (ha : h.get? a = some { cls := .type "list", data := .seq vs.toArray }) : Ez.DefOk T (Ez.Kx K a) mg fm cs ("law", 23) := by
  obtain ⟨fd, F⟩ := c.def_ 23 (d := d23) rfl
  have F2 : FunD (Ez.Kx K a) "law" "law" (defArgs s23) (defBody s23) (defScope s23) [] [] (He.fAd K d23.at_) fd := Ez.funD_x X ha F
  exact ⟨_, fd, _, _, _, _, _, _, ["_law_script"], _, 60, F2, He.glo_ok X G (c.fact 23 (f := .glo "law") rfl), F2.bindsN (fun _ _ _ _ _ _ us hl => match us, hl with | [_], _ => rfl), sc23, rfl, rfl, rfl, ck23⟩
theorem oks (X : K.In h) (G : h.Ns mainGlobals mg) (c : He.SaysD fa fn K) {a : Addr} {vs : List Value} (ha : h.get? a = some { cls := .type "list", data := .seq vs.toArray }) : ∀ p ∈ fm, Ez.DefOk T (Ez.Kx K a) mg fm cs p := by
  intro p hp
  simp only [fm, List.mem_cons, List.not_mem_nil, or_false] at hp
  rcases hp with rfl | rfl | rfl | rfl | rfl | rfl | rfl | rfl | rfl | rfl | rfl | rfl | rfl | rfl | rfl | rfl | rfl | rfl | rfl | rfl | rfl | rfl | rfl | rfl
  · exact ok0 X G c ha
  · exact ok1 X G c ha
  · exact ok2 X G c ha
  · exact ok3 X G c ha
  · exact ok4 X G c ha
  · exact ok5 X G c ha
  · exact ok6 X G c ha
  · exact ok7 X G c ha
  · exact ok8 X G c ha
  · exact ok9 X G c ha
  · exact ok10 X G c ha
  · exact ok11 X G c ha
  · exact ok12 X G c ha
  · exact ok13 X G c ha
  · exact ok14 X G c ha
  · exact ok15 X G c ha
  · exact ok16 X G c ha
  · exact ok17 X G c ha
  · exact ok18 X G c ha
  · exact ok19 X G c ha
  · exact ok20 X G c ha
  · exact ok21 X G c ha
  · exact ok22 X G c ha
  · exact ok23 X G c ha
end
/-- the law holds if the evaluator answers True at every script -/
theorem holds (H : ∀ ns : List Int, ns.length ≤ 63 → ∃ n g, Ez.evs T n .ca (10, 23, [.ref 0], [.frz (ns.map Ez.D.int)]) = some (.bl true, g)) : PySem.Challenge.rw_alikeagain_k02_whole_ways.Holds := by
  open PySem.W PySem.Calls in
  w_on; o_law
  refine HandSHeadRun.head_any (r := OpenLaw.row PySem.Challenge.rw_alikeagain_k02_whole_ways) (q := view (OpenLaw.row PySem.Challenge.rw_alikeagain_k02_whole_ways).prog [31]) (H := hk) (ob := ob) (M := 3000) (loose := loose) (d := HandSHeadRun.topDef (OpenLaw.row PySem.Challenge.rw_alikeagain_k02_whole_ways).prog 31) (kwd := []) ob_eq
    (by kernel_rfl) (fun s => by kernel_rfl) run (by kernel_rfl) (by kernel_rfl) (by kernel_rfl) (by rfl) (by first | assumption | decide +kernel) (by decide +kernel) ⟨rfl, rfl, rfl, rfl, rfl, by decide +kernel⟩ ?hw ?hc
  case hw => w_witness2
  case hc =>
    refine Ez.walk_g (l := PySem.Challenge.rw_alikeagain_k02_whole_ways) (n := 63) (k := 11) (x := "_law_script") rfl (by decide) (by kernel_rfl) ⟨rfl, by decide, by decide⟩ ?F
    intro w mg fad a h vs ns Y G hmg0 ha hi hl
    obtain ⟨K, KX, c⟩ := Y
    have hmg : mg ("law" : PySem.Str) = some (.ref fad) := by
      have e : (HandSHeadRun.topDef (OpenLaw.row PySem.Challenge.rw_alikeagain_k02_whole_ways).prog 31).name = ("law" : PySem.Str) := by kernel_rfl
      rw [← e]
      exact hmg0
    obtain ⟨n, g, hev⟩ := H ns hl
    have ok := oks KX G c ha
    have mds := md KX G c (Ez.Kx K a)
    have fs : ∀ base j, Ez.FnsG T PySem.Challenge.rw_alikeagain_k02_whole_ways.prog w (Ez.Kx K a) mg base fm j := fun base j => Ez.fns mds ok j
    obtain ⟨fd, F⟩ := c.def_ 23 (d := d23) rfl
    have F2 : FunD (Ez.Kx K a) "law" "law" (defArgs s23) (defBody s23) (defScope s23) [] [] (He.fAd K d23.at_) fd := Ez.funD_x KX ha F
    have eg := He.glo_ok KX G (c.fact 23 (f := .glo "law") rfl)
    have ea : fad = He.ga K "law" := by
      rw [hmg] at eg
      cases eg
      rfl
    have b := FunD.bindsA (ps := ["_law_script"]) F2 fun _ _ _ _ _ _ us hl => match us, hl with | [_], _ => rfl
    refine ⟨Ez.Kx K a, fd, Ez.rCa T (Ez.Kx K a) n 10 23, Ez.Kx_in KX, by rw [Ez.Kx_lookup, if_pos rfl], fun s v => b s [v] rfl, Ez.sp_of hev, fun base _ _ => ?_⟩
    rw [ea]
    exact Ez.fg_def mds (fun j _ => fs base j) F2 sc23 rfl rfl rfl ck23 10
end K02

theorem PySem.Challenge.cw_alikeagain_k02_whole_ways_holds : PySem.Challenge.rw_alikeagain_k02_whole_ways.Holds := by
  refine K02.holds fun ns hn => ?_
  obtain ⟨g, e⟩ := K02.law_ok (l := 4) ns hn
  obtain ⟨n, q⟩ := Ez.lim_some.mp e
  exact ⟨n, g, q⟩
