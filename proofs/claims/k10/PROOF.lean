import PyProof.Rows.All
import Wide.All
import OpenK.AllK
import Wide.FinOn
import KE.KStateDown
import Lean
import HandS.ForMost
import HandS.Exc
import HandS.TryOnly
import HandS.ExcOwn
import HandS.Defaults
import HandS.Flow
import HandS.Walk
import HandS.WordsExc
import HandS.More
import HandS.Conv
import HandS.IsInst
import HandS.TupLen
import HandS.FStr
import HandS.RaiseMore
import HandS.DictComp
import HandS.TupAny
import HandS.Small
import HandS.ExcInit
import HandS.ExcField
import HandS.TryMany
import HandS.Deep
import HandS.Iter
import KE.GoesEnum
import KE.GoesZip
import KE.GoesMore
import HandS.WordsDict
import PyProof.ListStr
import HandS.Head0
import HandS.Head1
import HandS.Head2
import HandS.HeadEnd
import HandS.HeadHook1
import HandS.HeadHook2
import HandS.HeadHook3
import HandS.HeadHook4
import HandS.HeadWalk
import PySem.Challenge.RW_wordturns_k10_texts_refused
set_option Elab.async false
set_option linter.all false
set_option maxRecDepth 100000
set_option maxHeartbeats 0
set_option maxRecDepth 100000
/-! Y0: data, a small language, what it computes. -/
namespace Yl
abbrev Tx := List Nat
inductive D where
  | non | bl (b : Bool) | int (i : Int) | str (x : Tx) | ty (n : Nat) | cl (c : Nat) | ref (i : Nat) | zz
  | tup (xs : List D) | ktup (xs : List D) | lst (xs : List D) | dct (t : Bool) (kvs : List (D × D)) | kdct (kvs : List (Tx × Int)) | ins (C : Nat) (fs : List (Tx × D)) | xo (fs : List (Tx × D))
  deriving Inhabited
abbrev Hc := List (Option D)
abbrev Env := List (Option D)
abbrev Pl := Option (List (Tx × D))
/-- may stand as a thing of its own -/
def boxd : D → Bool
  | .lst _ => true
  | .dct _ _ => true
  | .ins _ _ => true
  | _ => false
mutual
/-- no cell is named -/
def D.nr : D → Bool
  | .ref _ => false
  | .zz => false
  | .xo _ => false
  | .tup xs => nrL xs
  | .ktup xs => nrL xs
  | .lst xs => nrL xs
  | .dct _ kvs => nrK kvs
  | .ins _ fs => nrF fs
  | _ => true
def nrL : List D → Bool
  | [] => true
  | d :: ds => d.nr && nrL ds
def nrK : List (D × D) → Bool
  | [] => true
  | p :: ps => nrP p && nrK ps
def nrP : D × D → Bool
  | (a, b) => a.nr && b.nr
def nrF : List (Tx × D) → Bool
  | [] => true
  | p :: ps => nrQ p && nrF ps
def nrQ : Tx × D → Bool
  | (_, b) => b.nr
end
def lim : Nat := 16777216
/-! ### what a run comes to -/
inductive T (α : Type) where
  | ok (a : α) | ex (c : Nat) (pl : Pl) (h : Hc) | no | dr (n : Nat) (f : Nat → T α)
namespace T
def bind {α β : Type} : T α → (α → T β) → T β
  | ok a, f => f a
  | ex c pl h, _ => ex c pl h
  | no, _ => no
  | dr n g, f => dr n fun i => (g i).bind f
def good {α : Type} : T α → (α → Prop) → (Nat → Pl → Hc → Prop) → Prop
  | ok a, P, _ => P a
  | ex c pl h, _, X => X c pl h
  | no, _, _ => False
  | dr n f, P, X => ∀ i, i < n → (f i).good P X
def goodB {α : Type} : T α → (α → Bool) → Bool
  | ok a, P => P a
  | ex _ _ _, _ => false
  | no, _ => false
  | dr n f, P => (List.range n).all fun i => (f i).goodB P
theorem good_bind {α β : Type} {P : β → Prop} {X : Nat → Pl → Hc → Prop} : ∀ {t : T α} {f : α → T β}, (t.bind f).good P X ↔ t.good (fun a => (f a).good P X) X
  | ok a, f => Iff.rfl
  | ex c pl h, f => Iff.rfl
  | no, f => Iff.rfl
  | dr n g, f => ⟨fun h i hi => good_bind.mp (h i hi), fun h i hi => good_bind.mpr (h i hi)⟩
theorem good_mono {α : Type} {P P' : α → Prop} {X X' : Nat → Pl → Hc → Prop} (hp : ∀ a, P a → P' a) (hx : ∀ c pl h, X c pl h → X' c pl h) : ∀ {t : T α}, t.good P X → t.good P' X'
  | ok a, h => hp a h
  | ex c pl h', h => hx c pl h' h
  | no, h => h
  | dr n g, h => fun i hi => good_mono hp hx (h i hi)
theorem good_of {α : Type} {P : α → Bool} {X : Nat → Pl → Hc → Prop} : ∀ {t : T α}, t.goodB P = true → t.good (fun a => P a = true) X
  | ok a, h => h
  | ex c pl h', h => by cases h
  | no, h => by cases h
  | dr n g, h => fun i hi => good_of (List.all_eq_true.mp h i (List.mem_range.mpr hi))
def opt {α : Type} : Option α → T α
  | some a => ok a
  | none => no
end T
abbrev Rs := Bool × D × Hc
/-- the value -/
abbrev val (d : D) (h : Hc) : T Rs := .ok (false, d, h)
/-! ### operations -/
def isNon : D → Bool
  | .non => true
  | _ => false
def deref (h : Hc) : D → D
  | .ref j => match h[j]? with
    | some (some d) => d
    | _ => .zz
  | d => d
def txBeq : Tx → Tx → Bool
  | [], [] => true
  | a :: x, b :: y => Nat.beq a b && txBeq x y
  | _, _ => false
def txLt : Tx → Tx → Bool
  | [], [] => false
  | [], _ :: _ => true
  | _ :: _, [] => false
  | a :: x, b :: y => if Nat.blt a b then true else if Nat.beq a b then txLt x y else false
/-- of at most that depth, of lists, tuples and flat things -/
def depOk : Nat → D → Bool
  | 0, _ => false
  | n + 1, d => match d with
    | .non => true
    | .bl _ => true
    | .int _ => true
    | .str x => x.all fun c => Nat.blt c 1114112
    | .lst xs => xs.all (depOk n)
    | .tup xs => xs.all (depOk n)
    | .ktup xs => xs.all (depOk n)
    | _ => false
mutual
def eqv : D → D → Bool
  | .non, .non => true
  | .bl a, .bl b => a == b
  | .bl a, .int b => (if a then 1 else 0) == b
  | .int a, .bl b => a == (if b then 1 else 0)
  | .int a, .int b => a == b
  | .str a, .str b => txBeq a b
  | .lst a, .lst b => eqvL a b
  | .tup a, .tup b => eqvL a b
  | .ktup a, .tup b => eqvL a b
  | .tup a, .ktup b => eqvL a b
  | .ktup a, .ktup b => eqvL a b
  | _, _ => false
def eqvL : List D → List D → Bool
  | [], [] => true
  | a :: x, b :: y => eqv a b && eqvL x y
  | _, _ => false
end
mutual
def ltD : D → D → Option Bool
  | .int a, .int b => some (decide (a < b))
  | .str a, .str b => some (txLt a b)
  | .tup a, .tup b => ltL a b
  | _, _ => none
def ltL : List D → List D → Option Bool
  | [], [] => some false
  | [], _ :: _ => some true
  | _ :: _, [] => some false
  | a :: x, b :: y => if eqv a b then ltL x y else ltD a b
end
/-- flat: ints and texts -/
def flatK : D → Bool
  | .int _ => true
  | .str _ => true
  | _ => false
def isKey : D → Bool
  | .int _ => true
  | .str _ => true
  | .tup xs => xs.all flatK
  | _ => false
def isTupKey : D → Bool
  | .tup xs => xs.all flatK
  | _ => false
def getD (kvs : List (D × D)) (k : D) : Option D := match kvs with
  | [] => none
  | (a, b) :: r => if eqv a k then some b else getD r k
def putD (kvs : List (D × D)) (k v : D) : List (D × D) := if kvs.any (fun p => eqv p.1 k) then kvs.map (fun p => if eqv p.1 k then (p.1, v) else p) else kvs ++ [(k, v)]
def dropD (kvs : List (D × D)) (k : D) : List (D × D) := kvs.filter fun p => !eqv p.1 k
/-- t: the keys are tuples -/
def fits (t : Bool) (k : D) : Bool := if t then isTupKey k else flatK k
inductive O2 where
  | add | sub | mul | fdiv | mod | lt | le | gt | ge | eq | ne | isN | notN | isin | nin | ix | pow
  deriving DecidableEq
def ixN (n : Nat) (i : Int) : Option Nat := if 0 ≤ i then (if i.toNat < n then some i.toNat else none) else if 0 ≤ i + n then some (i + n).toNat else none
def flt : D → Bool
  | .non => true
  | .bl _ => true
  | .int _ => true
  | .str _ => true
  | _ => false
def inD (x y : D) : Option Bool := match y with
  | .lst ys => if depOk 6 x && depOk 6 y then some (ys.any fun z => eqv z x) else none
  | .tup ys => if flt x && ys.all flt then some (ys.any fun z => eqv z x) else none
  | .ktup ys => if flt x && ys.all flt then some (ys.any fun z => eqv z x) else none
  | .dct t kvs => if fits t x then some (getD kvs x).isSome else none
  | .kdct kvs => match x with
    | .str s => some (kvs.lookup s).isSome
    | _ => none
  | .str ys => match x with
    | .str [c] => some (ys.any fun b => Nat.beq b c)
    | _ => none
  | _ => none
/-- x o y; a container that is a cell is read -/
def o_add (h : Hc) (x y : D)  : Option (Bool × D) := match deref h x, deref h y with
    | .int i, .int j => some (false, .int (i + j))
    | .str a, .str b => if a.length + b.length ≤ lim then some (false, .str (a ++ b)) else none
    | .lst a, .lst b => if a.length + b.length ≤ lim then some (true, .lst (a ++ b)) else none
    | .tup a, .tup b => if a.length + b.length ≤ lim then some (false, .tup (a ++ b)) else none
    | _, _ => none
def o_sub (h : Hc) (x y : D)  : Option (Bool × D) := match x, y with
    | .int i, .int j => some (false, .int (i - j))
    | _, _ => none
def o_mul (h : Hc) (x y : D)  : Option (Bool × D) := match x, y with
    | .int i, .int j => if -18446744073709551616 < j ∧ j < 18446744073709551616 then some (false, .int (i * j)) else none
    | _, _ => none
def o_fdiv (h : Hc) (x y : D)  : Option (Bool × D) := match x, y with
    | .int i, .int j => if 0 < j ∧ j < 1073741824 then some (false, .int (i / j)) else none
    | _, _ => none
def o_mod (h : Hc) (x y : D)  : Option (Bool × D) := match x, y with
    | .int i, .int j => if 0 < j then some (false, .int (i % j)) else none
    | _, _ => none
def o_lt (h : Hc) (x y : D)  : Option (Bool × D) := match x, y with
    | .int i, .int j => some (false, .bl (decide (i < j)))
    | .str a, .str b => some (false, .bl (txLt a b))
    | _, _ => none
def o_le (h : Hc) (x y : D)  : Option (Bool × D) := match x, y with
    | .int i, .int j => some (false, .bl (decide (i ≤ j)))
    | _, _ => none
def o_gt (h : Hc) (x y : D)  : Option (Bool × D) := match x, y with
    | .int i, .int j => some (false, .bl (decide (j < i)))
    | _, _ => none
def o_ge (h : Hc) (x y : D)  : Option (Bool × D) := match x, y with
    | .int i, .int j => some (false, .bl (decide (j ≤ i)))
    | _, _ => none
def o_eq (h : Hc) (x y : D)  : Option (Bool × D) := if depOk 6 (deref h x) && depOk 6 (deref h y) then some (false, .bl (eqv (deref h x) (deref h y))) else none
def o_ne (h : Hc) (x y : D)  : Option (Bool × D) := if depOk 6 (deref h x) && depOk 6 (deref h y) then some (false, .bl (!eqv (deref h x) (deref h y))) else none
def o_isN (h : Hc) (x y : D)  : Option (Bool × D) := if isNon y then some (false, .bl (isNon x)) else none
def o_notN (h : Hc) (x y : D)  : Option (Bool × D) := if isNon y then some (false, .bl (!isNon x)) else none
def o_isin (h : Hc) (x y : D)  : Option (Bool × D) := (inD x (deref h y)).map fun b => (false, .bl b)
def o_nin (h : Hc) (x y : D)  : Option (Bool × D) := (inD x (deref h y)).map fun b => (false, .bl !b)
def o_ix (h : Hc) (x y : D)  : Option (Bool × D) := match deref h x, y with
    | .lst xs, .int i => ((ixN xs.length i).bind fun j => xs[j]?).map fun d => (false, d)
    | .tup xs, .int i => ((ixN xs.length i).bind fun j => xs[j]?).map fun d => (false, d)
    | .str s, .int i => if s.length ≤ lim then ((ixN s.length i).bind fun j => s[j]?).map fun c => (false, .str [c]) else none
    | .dct t kvs, k => if fits t k then (getD kvs k).map fun d => (false, d) else none
    | .kdct kvs, .str s => (kvs.lookup s).map fun i => (false, .int i)
    | _, _ => none
def o_pow (h : Hc) (x y : D)  : Option (Bool × D) := match x, y with
    | .int i, .int j => if i = 10 ∧ j = 18 then some (false, .int 1000000000000000000) else none
    | _, _ => none
def op2 (h : Hc) (o : O2) (x y : D) : Option (Bool × D) := match o with
  | .add => o_add h x y 
  | .sub => o_sub h x y 
  | .mul => o_mul h x y 
  | .fdiv => o_fdiv h x y 
  | .mod => o_mod h x y 
  | .lt => o_lt h x y 
  | .le => o_le h x y 
  | .gt => o_gt h x y 
  | .ge => o_ge h x y 
  | .eq => o_eq h x y 
  | .ne => o_ne h x y 
  | .isN => o_isN h x y 
  | .notN => o_notN h x y 
  | .isin => o_isin h x y 
  | .nin => o_nin h x y 
  | .ix => o_ix h x y
  | .pow => o_pow h x y 
/-- truth -/
def tru (h : Hc) (d : D) : Option Bool := match deref h d with
  | .non => some false
  | .bl b => some b
  | .int i => some (i != 0)
  | .str s => if s.length ≤ lim then some !s.isEmpty else none
  | .lst xs => some !xs.isEmpty
  | .tup xs => some !xs.isEmpty
  | _ => none
inductive Bi where
  | all | any | len | int | str | list | tuple | sorted | min | max | isi | dict
def bools : List D → Option (List Bool)
  | [] => some []
  | .bl b :: r => (bools r).map (b :: ·)
  | _ => none
/-- 0 NoneType, 1 bool, 2 int, 3 str, 4 tuple, 5 list, 6 dict -/
def tyN : D → Option Nat
  | .non => some 0
  | .bl _ => some 1
  | .int _ => some 2
  | .str _ => some 3
  | .tup _ => some 4
  | .lst _ => some 5
  | .dct t _ => if t then none else some 6
  | _ => none
def digits (n : Nat) : Tx := if n < 10 then [48 + n] else if n < 100 then [48 + n / 10, 48 + n % 10] else []
def insD (x : D) : List D → Option (List D)
  | [] => some [x]
  | y :: r => match ltD x y with
    | some true => some (x :: y :: r)
    | some false => (insD x r).map (y :: ·)
    | none => none
def sortD : List D → Option (List D)
  | [] => some []
  | x :: r => (sortD r).bind (insD x)
def minI : List D → Option Int
  | [.int i] => some i
  | .int i :: r => (minI r).map fun j => if i ≤ j then i else j
  | _ => none
def maxI : List D → Option Int
  | [.int i] => some i
  | .int i :: r => (maxI r).map fun j => if j ≤ i then i else j
  | _ => none
def signs (s : Tx) : List D := s.map fun c => .str [c]
def keysOf (kvs : List (D × D)) : List D := kvs.map (·.1)
def pairsOf : List D → Option (List (D × D))
  | [] => some []
  | .tup [k, v] :: r => (pairsOf r).map ((k, v) :: ·)
  | _ => none
def isi (d : D) (t : D) : Option Bool := match t with
  | .ty n => (tyN d).bind fun m => if Nat.beq n 2 then some (Nat.beq m 2 || Nat.beq m 1) else if Nat.ble 1 n && Nat.ble n 6 then some (Nat.beq m n) else none
  | _ => none
def b_all (h : Hc) (x : D)  : Option (Bool × D) := match x with
    | .lst xs => (bools xs).map fun bs => (false, .bl (bs.all id))
    | _ => none
def b_any (h : Hc) (x : D)  : Option (Bool × D) := match x with
    | .lst xs => (bools xs).map fun bs => (false, .bl (bs.any id))
    | _ => none
def b_len (h : Hc) (x : D)  : Option (Bool × D) := match deref h x with
    | .str s => if s.length ≤ lim then some (false, .int s.length) else none
    | .lst xs => some (false, .int xs.length)
    | .tup xs => some (false, .int xs.length)
    | .dct _ kvs => some (false, .int kvs.length)
    | _ => none
def b_int (h : Hc) (x : D)  : Option (Bool × D) := match x with
    | .int i => some (false, .int i)
    | .bl k => some (false, .int (if k then 1 else 0))
    | _ => none
def b_str (h : Hc) (x : D)  : Option (Bool × D) := match x with
    | .int i => if 0 ≤ i ∧ i < 100 then some (false, .str (digits i.toNat)) else none
    | _ => none
def b_list (h : Hc) (x : D)  : Option (Bool × D) := match deref h x with
    | .lst xs => some (true, .lst xs)
    | .tup xs => some (true, .lst xs)
    | .str s => if s.length ≤ lim then some (true, .lst (signs s)) else none
    | .dct _ kvs => some (true, .lst (keysOf kvs))
    | _ => none
def b_tuple (h : Hc) (x : D)  : Option (Bool × D) := match deref h x with
    | .lst xs => some (false, .tup xs)
    | .tup xs => some (false, .tup xs)
    | _ => none
def b_sorted (h : Hc) (x : D)  : Option (Bool × D) := match deref h x with
    | .lst xs => (sortD xs).map fun r => (true, .lst r)
    | .tup xs => (sortD xs).map fun r => (true, .lst r)
    | .dct _ kvs => (sortD (keysOf kvs)).map fun r => (true, .lst r)
    | _ => none
def b_min (h : Hc) (x : D)  : Option (Bool × D) := match deref h x with
    | .lst xs => (minI xs).map fun i => (false, .int i)
    | _ => none
def b_max (h : Hc) (x : D)  : Option (Bool × D) := match deref h x with
    | .lst xs => (maxI xs).map fun i => (false, .int i)
    | _ => none
def b_dict (h : Hc) (x : D)  : Option (Bool × D) := match deref h x with
    | .dct t kvs => some (true, .dct t kvs)
    | .lst xs => (pairsOf xs).bind fun ps => if ps.all (fun p => flatK p.1) then some (true, .dct false (ps.foldl (fun acc p => putD acc p.1 p.2) [])) else none
    | _ => none
def bi1 (h : Hc) (b : Bi) (x : D) : Option (Bool × D) := match b with
  | .all => b_all h x 
  | .any => b_any h x 
  | .len => b_len h x 
  | .int => b_int h x 
  | .str => b_str h x 
  | .list => b_list h x 
  | .tuple => b_tuple h x 
  | .sorted => b_sorted h x 
  | .min => b_min h x 
  | .max => b_max h x 
  | .dict => b_dict h x 
  | .isi => none
def biN (h : Hc) (b : Bi) (xs : List D) : Option (Bool × D) := match b, xs with
  | b, [x] => bi1 h b x
  | .isi, [x, t] => (isi x t).map fun b => (false, .bl b)
  | .min, [.int i, .int j] => some (false, .int (if i ≤ j then i else j))
  | .min, [.str a, .str b] => some (false, .str (if txLt b a then b else a))
  | .max, [.int i, .int j] => some (false, .int (if j ≤ i then i else j))
  | _, _ => none
/-! texts -/
def startsT : Tx → Tx → Bool
  | _, [] => true
  | [], _ :: _ => false
  | a :: x, b :: y => Nat.beq a b && startsT x y
def endsT (x y : Tx) : Bool := startsT x.reverse y.reverse
def splitT (c : Nat) : Tx → Tx → List Tx
  | acc, [] => [acc]
  | acc, a :: x => if Nat.beq a c then acc :: splitT c [] x else splitT c (acc ++ [a]) x
def joinR (s : Tx) : List Tx → Tx → Tx
  | [], acc => acc
  | x :: r, acc => joinR s r (acc ++ s ++ x)
def joinT (s : Tx) : List Tx → Tx
  | [] => []
  | x :: r => joinR s r x
def joinOk (s : Tx) (ss : List Tx) : Bool := Nat.ble ((ss.map List.length).sum + ss.length * s.length) lim
def txsOf : List D → Option (List Tx)
  | [] => some []
  | .str s :: r => (txsOf r).map (s :: ·)
  | _ => none
def cutN (n d : Nat) : Option Int → Nat
  | none => d
  | some v => if v < 0 then (v + (n : Int)).toNat else min v.toNat n
def cutT {α : Type} (xs : List α) (lo hi : Option Int) : List α := (xs.drop (cutN xs.length 0 lo)).take (cutN xs.length xs.length hi - cutN xs.length 0 lo)
inductive Me where
  | starts | ends | join | split | get | app | pop | popK
def m_starts (h : Hc) (x : D) (as : List D) : Option (Bool × D × Hc) := match x, as with
  | .str a, [.str b] => some (false, .bl (startsT a b), h)
  | _, _ => none
def m_ends (h : Hc) (x : D) (as : List D) : Option (Bool × D × Hc) := match x, as with
  | .str a, [.str b] => some (false, .bl (endsT a b), h)
  | _, _ => none
def seqOf : D → Option (List D)
  | .lst ys => some ys
  | .tup ys => some ys
  | _ => none
def m_join (h : Hc) (x : D) (as : List D) : Option (Bool × D × Hc) := match x, as with
  | .str s, [y] => ((seqOf (deref h y)).bind txsOf).bind fun ss => if joinOk s ss then some (false, .str (joinT s ss), h) else none
  | _, _ => none
def m_split (h : Hc) (x : D) (as : List D) : Option (Bool × D × Hc) := match x, as with
  | .str s, [.str [c]] => if s.length + 2 ≤ lim ∧ c < 256 then some (true, .lst ((splitT c [] s).map .str), h) else none
  | _, _ => none
def m_get (h : Hc) (x : D) (as : List D) : Option (Bool × D × Hc) := match deref h x, as with
  | .dct t kvs, [k, v] => if fits t k then some (false, (getD kvs k).getD v, h) else none
  | _, _ => none
def m_app (h : Hc) (x : D) (as : List D) : Option (Bool × D × Hc) := match x, as with
  | .ref j, [v] => match h[j]? with
    | some (some (.lst xs)) => if xs.length < lim then some (false, .non, h.set j (some (.lst (xs ++ [v])))) else none
    | _ => none
  | _, _ => none
def m_pop (h : Hc) (x : D) (as : List D) : Option (Bool × D × Hc) := match x, as with
  | .ref j, [] => match h[j]? with
    | some (some (.lst xs)) => xs.getLast?.map fun d => (false, d, h.set j (some (.lst xs.dropLast)))
    | _ => none
  | _, _ => none
def m_popK (h : Hc) (x : D) (as : List D) : Option (Bool × D × Hc) := match x, as with
  | .ref j, [k] => match h[j]? with
    | some (some (.dct t kvs)) => if fits t k then (getD kvs k).map fun d => (false, d, h.set j (some (.dct t (dropD kvs k)))) else none
    | _ => none
  | _, _ => none
/-- a method: what it gives, the cells behind it -/
def me (h : Hc) (m : Me) (x : D) (as : List D) : Option (Bool × D × Hc) := match m with
  | .starts => m_starts h x as
  | .ends => m_ends h x as
  | .join => m_join h x as
  | .split => m_split h x as
  | .get => m_get h x as
  | .app => m_app h x as
  | .pop => m_pop h x as
  | .popK => m_popK h x as
def isStrD : D → Bool
  | .str _ => true
  | _ => false
def isDct : D → Bool
  | .dct _ _ => true
  | _ => false
def cellL (h : Hc) : D → Bool
  | .ref j => match h[j]? with
    | some (some (.lst _)) => true
    | _ => false
  | _ => false
def cellD (h : Hc) : D → Bool
  | .ref j => match h[j]? with
    | some (some (.dct _ _)) => true
    | _ => false
  | _ => false
def meRecv (h : Hc) (m : Me) (x : D) : Bool := match m with
  | .starts => isStrD x
  | .ends => isStrD x
  | .join => isStrD x
  | .split => isStrD x
  | .get => isDct (deref h x)
  | .app => cellL h x
  | .pop => cellL h x
  | .popK => cellD h x
/-! ### the language -/
def lkF : List (Tx × D) → Tx → Option D
  | [], _ => none
  | (a, d) :: r, n => if txBeq a n then some d else lkF r n
def putF (n : Tx) (v : D) : List (Tx × D) → List (Tx × D)
  | [] => [(n, v)]
  | (a, d) :: r => if txBeq a n then (a, v) :: r else (a, d) :: putF n v r
inductive Ik where
  | lst | tup | str | dct | rng | zip | enum
inductive E where
  | var (i : Nat) | take (i : Nat) | cst (d : D) | gl (g : Nat) | ty (n : Nat)
  | op2 (o : O2) (a b : E) | not (a : E) | and (es : List E) | or (es : List E) | ite (c a b : E) | chain (o o' : O2) (a b c : E)
  | tup (es : List E) | lst (es : List E) | dct0 (t : Bool) | dct (ks vs : List E)
  | bi (b : Bi) (es : List E) | me (m : Me) (a : E) (es : List E)
  | fld (a : E) (n : Tx) | slice (a : E) (lo hi : Option E) | rev (a : E)
  | call (f : Nat) (es : List E) | callR (f : Nat) (sel : List Bool) (es : List E) | new (a : E) | draw (i : Nat) (n : E)
  | lc (tg : List Nat) (tp : Bool) (k : Ik) (its : List E) (cond : List E) (elt : E)
  | lc2 (x y : Nat) (i j : E) (elt : E) | lc3 (x y z : Nat) (i j k : E) (elt : E)
  | dc (t : Bool) (x : Nat) (ik : Ik) (it : E) (k v : E)
  | fs (parts : List (Tx × E)) (last : Tx)
  | mk (j : Nat) (es : List E) | lrange (a : E) | mc (a : E) (f : Nat) (es : List E)
/-- a clause: which errors it takes; it stores a constant, or a field of the error -/
inductive Hd where
  | c (tb : List (Nat × Bool)) (i : Nat) (d : D) | f (tb : List (Nat × Bool)) (e i : Nat) (n : Tx)
inductive S where
  | set (i : Nat) (e : E) | setT (tg : List Nat) (e : E) | setIx (a k v : E) | setFld (C : Nat) (a : E) (n : Tx) (v : E) | aug (i : Nat) (o : O2) (e : E) | augIx (a k v : E)
  | ex (e : E) | ite (c : E) (a b : List S) | for_ (tg : List Nat) (tp : Bool) (k : Ik) (its : List E) (body : List S) | while_ (c : E) (body : List S)
  | ret (e : E) | retN | raise (C : Nat) (fl : Option Tx) (es : List E) | try_ (body : List S) (hs : List Hd) | pass | brk | fz (is : List Nat) (s : S) | zzc (i : Nat) (s : S)
inductive Out where
  | nx (ρ : Env) (h : Hc) | rt (f : Bool) (d : D) (h : Hc) | bk (ρ : Env) (h : Hc) | ct (ρ : Env) (h : Hc) | xx (c : Nat) (pl : Pl) (ρ : Env) (h : Hc)
structure Md where
  mk_ : Nat → Nat × Nat × List D
  run : Nat → List D → Hc → T Rs
  gl : Nat → D
  fuel : Nat
/-! what is walked -/
def rangeU (lo : Int) : Nat → List D
  | 0 => []
  | n + 1 => .int lo :: rangeU (lo + 1) n
def rangeD (hi : Int) : Nat → List D
  | 0 => []
  | n + 1 => .int hi :: rangeD (hi - 1) n
def zipD : List D → List D → List D
  | a :: x, b :: y => .tup [a, b] :: zipD x y
  | _, _ => []
def enumD (i : Int) : List D → List D
  | [] => []
  | a :: x => .tup [.int i, a] :: enumD (i + 1) x
/-- the items of a value that is walked (not a cell: what is walked is frozen) -/
def itemsOf : D → Option (List D)
  | .lst xs => some xs
  | .tup xs => some xs
  | .ktup xs => some xs
  | .str s => if s.length ≤ lim then some (signs s) else none
  | .dct _ kvs => some (keysOf kvs)
  | _ => none
def small (i : Int) : Bool := decide (-1000000000 < i) && decide (i < 1000000000)
def items (k : Ik) (xs : List D) : Option (List D) := match k, xs with
  | .lst, [.lst xs] => some xs
  | .tup, [.tup xs] => some xs
  | .tup, [.ktup xs] => some xs
  | .str, [.str s] => if s.length ≤ lim then some (signs s) else none
  | .dct, [.dct _ kvs] => some (keysOf kvs)
  | .rng, [.int n] => if small n then some (rangeU 0 n.toNat) else none
  | .rng, [.int a, .int b] => if small a && small b then some (rangeU a (b - a).toNat) else none
  | .rng, [.int a, .int b, .int (-1)] => if small a && small b then some (rangeD a (a - b).toNat) else none
  | .zip, [.str a, .str b] => if a.length ≤ lim ∧ b.length ≤ lim then some (zipD (signs a) (signs b)) else none
  | .enum, [.lst xs] => some (enumD 0 xs)
  | _, _ => none
def asg (tg : List Nat) (tp : Bool) (d : D) (ρ : Env) : Option Env := match tp, tg with
  | false, [i] => some (ρ.set i (some d))
  | true, is => match d with
    | .tup ds => if ds.length == is.length then some ((is.zip ds).foldl (fun ρ p => ρ.set p.1 (some p.2)) ρ) else none
    | _ => none
  | _, _ => none
def unset (ρ : Env) : List Nat → Env
  | [] => ρ
  | i :: is => (unset ρ is).set i none
abbrev Ev := E → Env → Hc → T Rs
abbrev Et := E → Env → Hc → T (Bool × Hc)
section
variable (M : Md)
def vl (r : Ev) (e : E) (ρ : Env) (h : Hc) : T (D × Hc) := (r e ρ h).bind fun p => .ok (p.2.1, p.2.2)
def vls (r : Ev) : List E → Env → Hc → T (List D × Hc)
  | [], _, h => .ok ([], h)
  | e :: es, ρ, h => (vl r e ρ h).bind fun p => (vls r es ρ p.2).bind fun q => .ok (p.1 :: q.1, q.2)
def ot (h : Hc) : Option (Bool × D) → T Rs
  | some (f, d) => .ok (f, d, h)
  | none => .no
def om : Option (Bool × D × Hc) → T Rs
  | some p => .ok p
  | none => .no
def part (r : Ev) : Option E → Env → Hc → T (Option Int × Hc)
  | none, _, h => .ok (none, h)
  | some e, ρ, h => (vl r e ρ h).bind fun y => match y.1 with
    | .int i => .ok (some i, y.2)
    | _ => .no
def cutD (d : D) (l u : Option Int) : Option (Bool × D) := match d with
  | .str s => if s.length ≤ lim then some (false, .str (cutT s l u)) else none
  | .lst xs => some (true, .lst (cutT xs l u))
  | .tup xs => some (false, .tup (cutT xs l u))
  | _ => none
def andV (r : Ev) : List E → Env → Hc → T Rs
  | [], _, _ => .no
  | [a], ρ, h => (vl r a ρ h).bind fun p => val p.1 p.2
  | a :: es, ρ, h => (vl r a ρ h).bind fun p => match tru p.2 p.1 with
    | some true => andV r es ρ p.2
    | some false => val p.1 p.2
    | none => .no
def orV (r : Ev) : List E → Env → Hc → T Rs
  | [], _, _ => .no
  | [a], ρ, h => (vl r a ρ h).bind fun p => val p.1 p.2
  | a :: es, ρ, h => (vl r a ρ h).bind fun p => match tru p.2 p.1 with
    | some false => orV r es ρ p.2
    | some true => val p.1 p.2
    | none => .no
def andT (t : Et) : List E → Env → Hc → T (Bool × Hc)
  | [], _, _ => .no
  | [a], ρ, h => t a ρ h
  | a :: es, ρ, h => (t a ρ h).bind fun p => if p.1 then andT t es ρ p.2 else .ok (false, p.2)
def orT (t : Et) : List E → Env → Hc → T (Bool × Hc)
  | [], _, _ => .no
  | [a], ρ, h => t a ρ h
  | a :: es, ρ, h => (t a ρ h).bind fun p => if p.1 then .ok (true, p.2) else orT t es ρ p.2
/-- no exception passes -/
def T.calm {α : Type} : T α → T α
  | .ok a => .ok a
  | .ex _ _ _ => .no
  | .no => .no
  | .dr n f => .dr n fun i => (f i).calm
def condT (t : Et) : List E → Env → Hc → T (Bool × Hc)
  | [], _, h => .ok (true, h)
  | [c], ρ, h => t c ρ h
  | _, _, _ => .no
def lcGo (r : Ev) (t : Et) (tg : List Nat) (tp : Bool) (cond : List E) (elt : E) (ρ : Env) : List D → List D → Hc → T (List D × Hc)
  | [], acc, h => .ok (acc.reverse, h)
  | d :: ds, acc, h => (T.opt (asg tg tp d (unset ρ tg))).bind fun ρ' => (condT t cond ρ' h).bind fun b =>
    if b.1 then (vl r elt ρ' b.2).bind fun p => lcGo r t tg tp cond elt ρ ds (p.1 :: acc) p.2 else lcGo r t tg tp cond elt ρ ds acc b.2
/-- the inner clause -/
def lc1Go (r : Ev) (elt : E) (x : Nat) (ρ : Env) : List D → List D → Hc → T (List D × Hc)
  | [], acc, h => .ok (acc, h)
  | d :: ds, acc, h => (vl r elt (ρ.set x (some d)) h).bind fun p => lc1Go r elt x ρ ds (acc ++ [p.1]) p.2
def lc2Go (r : Ev) (own : List Nat) (j elt : E) (x y : Nat) (ρ : Env) : List D → List D → Hc → T (List D × Hc)
  | [], acc, h => .ok (acc, h)
  | d :: ds, acc, h => (vl r j ((unset ρ own).set x (some d)) h).bind fun p => match itemsOf p.1 with
    | some es => (lc1Go r elt y ((unset ρ own).set x (some d)) es acc p.2).bind fun q => lc2Go r own j elt x y ρ ds q.1 q.2
    | none => .no
def lc3Go (r : Ev) (own : List Nat) (j k elt : E) (x y z : Nat) (ρ : Env) : List D → List D → Hc → T (List D × Hc)
  | [], acc, h => .ok (acc, h)
  | d :: ds, acc, h => (vl r j ((unset ρ own).set x (some d)) h).bind fun p => match itemsOf p.1 with
    | some es => (lc2Go r [] k elt y z ((unset ρ own).set x (some d)) es acc p.2).bind fun q => lc3Go r own j k elt x y z ρ ds q.1 q.2
    | none => .no
def dcGo (r : Ev) (t : Bool) (x : Nat) (k v : E) (ρ : Env) : List D → List (D × D) → Hc → T (List (D × D) × Hc)
  | [], acc, h => .ok (acc, h)
  | d :: ds, acc, h => (vl r k ((unset ρ [x]).set x (some d)) h).bind fun p => (vl r v ((unset ρ [x]).set x (some d)) p.2).bind fun q =>
    if fits t p.1 then dcGo r t x k v ρ ds (putD acc p.1 q.1) q.2 else .no
def joinB : List Bool → List D → Hc → Option (List D × List (Nat × D))
  | [], [], _ => some ([], [])
  | false :: s, d :: ds, h => if d.nr then (joinB s ds h).map fun p => (d :: p.1, p.2) else none
  | true :: s, .ref j :: ds, h => match h[j]? with
    | some (some c) => (joinB s ds h).map fun p => (.ref j :: p.1, (j, c) :: p.2)
    | _ => none
  | _, _, _ => none
/-- the cells that are handed over are numbered anew -/
def renum : Nat → List Bool → List D → List D
  | _, [], _ => []
  | n, false :: s, d :: ds => d :: renum n s ds
  | n, true :: s, _ :: ds => .ref n :: renum (n + 1) s ds
  | _, _, [] => []
def okCell : D → Bool
  | .zz => true
  | d => d.nr
def wback : List (Nat × D) → Hc → Hc → Option Hc
  | [], _, h => some h
  | (j, _) :: js, some c :: cs, h => if okCell c then wback js cs (h.set j (some c)) else none
  | _, _, _ => none
def nodupN : List Nat → Bool
  | [] => true
  | a :: r => (r.all fun b => !Nat.beq a b) && nodupN r
def nrPl : Pl → Bool
  | none => true
  | some fs => nrF fs
def unR (js : List (Nat × D)) (h : Hc) : T Rs → T Rs
  | .ok (f, d, h') => if d.nr then match wback js h' h with
    | some h2 => .ok (f, d, h2)
    | none => .no
    else .no
  | .ex c pl h' => if nrPl pl then match wback js h' h with
    | some h2 => .ex c pl h2
    | none => .no
    else .no
  | .no => .no
  | .dr n f => .dr n fun i => unR js h (f i)
def callRV (f : Nat) (s : List Bool) (ds : List D) (h : Hc) : T Rs := match joinB s ds h with
  | some (_, js) => if nodupN (js.map (·.1)) && js.all (fun p => okCell p.2) then unR js h (M.run f (renum 0 s ds) (js.map fun p => some p.2)) else .no
  | none => .no
def callV (f : Nat) (ds : List D) (h : Hc) : T Rs := if nrL ds then unR [] h (M.run f ds []) else .no
/-- C(..): a new instance, its __init__ -/
def mkR (C : Nat) (h : Hc) : T Rs → T Rs
  | .ok (false, .non, [some (.ins C' fs)]) => if Nat.beq C' C && nrF fs then .ok (true, .ins C fs, h) else .no
  | .ok _ => .no
  | .ex c pl _ => if nrPl pl then .ex c pl h else .no
  | .no => .no
  | .dr n f => .dr n fun i => mkR C h (f i)
def mkV (C f : Nat) (ds : List D) (h : Hc) : T Rs := if nrL ds then mkR C h (M.run f (.ref 0 :: ds) [some (.ins C [])]) else .no
def e_var (M : Md) (r : Ev) (t : Et) (ρ : Env) (h : Hc) (i : Nat) : T Rs := match ρ[i]? with
    | some (some d) => val d h
    | _ => .no
def e_take (M : Md) (r : Ev) (t : Et) (ρ : Env) (h : Hc) (i : Nat) : T Rs := match ρ[i]? with
    | some (some (.ref j)) => match h[j]? with
      | some (some d) => if boxd d then .ok (true, d, h.set j none) else .no
      | _ => .no
    | _ => .no
def e_op2 (M : Md) (r : Ev) (t : Et) (ρ : Env) (h : Hc) (o : O2) (a : E) (b : E) : T Rs := (vl r a ρ h).bind fun x => (vl r b ρ x.2).bind fun y => ot y.2 (op2 y.2 o x.1 y.1)
def e_not (M : Md) (r : Ev) (t : Et) (ρ : Env) (h : Hc) (a : E) : T Rs := (vl r a ρ h).bind fun p => match tru p.2 p.1 with
  | some b => val (.bl !b) p.2
  | none => .no
def e_ite (M : Md) (r : Ev) (t : Et) (ρ : Env) (h : Hc) (c : E) (a : E) (b : E) : T Rs := (t c ρ h).bind fun p => if p.1 then r a ρ p.2 else r b ρ p.2
def e_chain (M : Md) (r : Ev) (t : Et) (ρ : Env) (h : Hc) (o : O2) (o' : O2) (a : E) (b : E) (c : E) : T Rs := (vl r a ρ h).bind fun x => (vl r b ρ x.2).bind fun y => match op2 y.2 o x.1 y.1 with
    | some (_, .bl true) => (vl r c ρ y.2).bind fun z => ot z.2 (op2 z.2 o' y.1 z.1)
    | some (_, .bl false) => val (.bl false) y.2
    | _ => .no
def e_tup (M : Md) (r : Ev) (t : Et) (ρ : Env) (h : Hc) (es : List E) : T Rs := (vls r es ρ h).bind fun p => val (.tup p.1) p.2
def e_lst (M : Md) (r : Ev) (t : Et) (ρ : Env) (h : Hc) (es : List E) : T Rs := (vls r es ρ h).bind fun p => .ok (true, .lst p.1, p.2)
def e_dct (M : Md) (r : Ev) (t : Et) (ρ : Env) (h : Hc) (ks : List E) (vs : List E) : T Rs := match ks, vs with
    | [k], [v] => (vl r k ρ h).bind fun x => (vl r v ρ x.2).bind fun y => if flatK x.1 then .ok (true, .dct false [(x.1, y.1)], y.2) else .no
    | _, _ => .no
def e_bi (M : Md) (r : Ev) (t : Et) (ρ : Env) (h : Hc) (b : Bi) (es : List E) : T Rs := (vls r es ρ h).bind fun p => ot p.2 (biN p.2 b p.1)
def e_me (M : Md) (r : Ev) (t : Et) (ρ : Env) (h : Hc) (m : Me) (a : E) (es : List E) : T Rs := (vl r a ρ h).bind fun x => if meRecv x.2 m x.1 then (vls r es ρ x.2).bind fun p => om (me p.2 m x.1 p.1) else .no
def e_fld (M : Md) (r : Ev) (t : Et) (ρ : Env) (h : Hc) (a : E) (n : Tx) : T Rs := (vl r a ρ h).bind fun x => match deref x.2 x.1 with
    | .ins _ fs => match lkF fs n with
      | some d => val d x.2
      | none => .no
    | .xo fs => match lkF fs n with
      | some d => val d x.2
      | none => .no
    | _ => .no
def e_slice (M : Md) (r : Ev) (t : Et) (ρ : Env) (h : Hc) (a : E) (lo : Option E) (hi : Option E) : T Rs := (vl r a ρ h).bind fun x => (part r lo ρ x.2).bind fun l => (part r hi ρ l.2).bind fun u => ot u.2 (cutD (deref u.2 x.1) l.1 u.1)
def e_rev (M : Md) (r : Ev) (t : Et) (ρ : Env) (h : Hc) (a : E) : T Rs := (vl r a ρ h).bind fun x => match x.1 with
    | .tup xs => val (.tup xs.reverse) x.2
    | _ => .no
def e_call (M : Md) (r : Ev) (t : Et) (ρ : Env) (h : Hc) (f : Nat) (es : List E) : T Rs := (vls r es ρ h).bind fun p => callV M f p.1 p.2
def e_callR (M : Md) (r : Ev) (t : Et) (ρ : Env) (h : Hc) (f : Nat) (s : List Bool) (es : List E) : T Rs := (vls r es ρ h).bind fun p => callRV M f s p.1 p.2
def e_new (M : Md) (r : Ev) (t : Et) (ρ : Env) (h : Hc) (a : E) : T Rs := (r a ρ h).bind fun p => if p.1 then val (.ref p.2.2.length) (p.2.2 ++ [some p.2.1]) else .no
def e_draw (M : Md) (r : Ev) (t : Et) (ρ : Env) (h : Hc) (i : Nat) (n : E) : T Rs := match ρ[i]? with
    | some (some (.ref j)) => (vl r n ρ h).bind fun x => match x.2[j]?, x.1 with
      | some (some .zz), .int (.ofNat k) => if 0 < k ∧ k < 1000000000 then .dr k fun i => val (.int i) x.2 else .no
      | _, _ => .no
    | _ => .no
def e_lc (M : Md) (r : Ev) (t : Et) (ρ : Env) (h : Hc) (tg : List Nat) (tp : Bool) (k : Ik) (its : List E) (cond : List E) (elt : E) : T Rs := (vls r its ρ h).bind fun p => match items k p.1 with
    | some ds => if ds.length ≤ lim then (lcGo r t tg tp cond elt ρ ds [] p.2).calm.bind fun q => .ok (true, .lst q.1, q.2) else .no
    | none => .no
def e_lc2 (M : Md) (r : Ev) (t : Et) (ρ : Env) (h : Hc) (x : Nat) (y : Nat) (i : E) (j : E) (elt : E) : T Rs := (vl r i ρ h).bind fun p => match itemsOf p.1 with
    | some ds => (lc2Go r [x, y] j elt x y ρ ds [] p.2).calm.bind fun q => if q.1.length ≤ lim then .ok (true, .lst q.1, q.2) else .no
    | none => .no
def e_lc3 (M : Md) (r : Ev) (t : Et) (ρ : Env) (h : Hc) (x : Nat) (y : Nat) (z : Nat) (i : E) (j : E) (k : E) (elt : E) : T Rs := (vl r i ρ h).bind fun p => match itemsOf p.1 with
    | some ds => (lc3Go r [x, y, z] j k elt x y z ρ ds [] p.2).calm.bind fun q => if q.1.length ≤ lim then .ok (true, .lst q.1, q.2) else .no
    | none => .no
def e_dc (M : Md) (r : Ev) (t : Et) (ρ : Env) (h : Hc) (tk : Bool) (x : Nat) (ik : Ik) (it : E) (k : E) (v : E) : T Rs := (vl r it ρ h).bind fun p => match items ik [p.1] with
    | some ds => if ds.length ≤ lim then (dcGo r tk x k v ρ ds [] p.2).calm.bind fun q => .ok (true, .dct tk q.1, q.2) else .no
    | none => .no
def e_lrange (M : Md) (r : Ev) (t : Et) (ρ : Env) (h : Hc) (a : E) : T Rs := (vl r a ρ h).bind fun x => match x.1 with
    | .int n => if small n then .ok (true, .lst (rangeU 0 n.toNat), x.2) else .no
    | _ => .no
def e_mk (M : Md) (r : Ev) (t : Et) (ρ : Env) (h : Hc) (j : Nat) (es : List E) : T Rs := (vls r es ρ h).bind fun p => mkV M (M.mk_ j).1 (M.mk_ j).2.1 (p.1 ++ (M.mk_ j).2.2) p.2
def e_mc (M : Md) (r : Ev) (t : Et) (ρ : Env) (h : Hc) (a : E) (f : Nat) (es : List E) : T Rs := (vl r a ρ h).bind fun x => (vls r es ρ x.2).bind fun p => callV M f (x.1 :: p.1) p.2
def stepE (r : Ev) (t : Et) (e : E) (ρ : Env) (h : Hc) : T Rs := match e with
  | .var i => e_var M r t ρ h i
  | .take i => e_take M r t ρ h i
  | .cst d => val d h
  | .gl g => val (M.gl g) h
  | .ty n => val (.ty n) h
  | .op2 o a b => e_op2 M r t ρ h o a b
  | .not a => e_not M r t ρ h a
  | .and es => andV r es ρ h
  | .or es => orV r es ρ h
  | .ite c a b => e_ite M r t ρ h c a b
  | .chain o o' a b c => e_chain M r t ρ h o o' a b c
  | .tup es => e_tup M r t ρ h es
  | .lst es => e_lst M r t ρ h es
  | .dct0 t => .ok (true, .dct t [], h)
  | .dct ks vs => e_dct M r t ρ h ks vs
  | .bi b es => e_bi M r t ρ h b es
  | .me m a es => e_me M r t ρ h m a es
  | .fld a n => e_fld M r t ρ h a n
  | .slice a lo hi => e_slice M r t ρ h a lo hi
  | .rev a => e_rev M r t ρ h a
  | .call f es => e_call M r t ρ h f es
  | .callR f s es => e_callR M r t ρ h f s es
  | .new a => e_new M r t ρ h a
  | .draw i n => e_draw M r t ρ h i n
  | .lc tg tp k its cond elt => e_lc M r t ρ h tg tp k its cond elt
  | .lc2 x y i j elt => e_lc2 M r t ρ h x y i j elt
  | .lc3 x y z i j k elt => e_lc3 M r t ρ h x y z i j k elt
  | .dc tk x ik it k v => e_dc M r t ρ h tk x ik it k v
  | .fs parts last => .no
  | .lrange a => e_lrange M r t ρ h a
  | .mk j es => e_mk M r t ρ h j es
  | .mc a f es => e_mc M r t ρ h a f es
def stepT (r : Ev) (t : Et) (e : E) (ρ : Env) (h : Hc) : T (Bool × Hc) := match e with
  | .not a => (t a ρ h).bind fun p => .ok (!p.1, p.2)
  | .and es => andT t es ρ h
  | .or es => orT t es ρ h
  | e => (r e ρ h).bind fun p => match tru p.2.2 p.2.1 with
    | some b => .ok (b, p.2.2)
    | none => .no
def evE : Nat → Ev × Et
  | 0 => (fun _ _ _ => .no, fun _ _ _ => .no)
  | n + 1 => (stepE M (evE n).1 (evE n).2, stepT (stepE M (evE n).1 (evE n).2) (evE n).2)

def sx {α : Type} (ρ : Env) (f : α → T Out) : T α → T Out
  | .ok a => f a
  | .ex c pl h => .ok (.xx c pl ρ h)
  | .no => .no
  | .dr n g => .dr n fun i => sx ρ f (g i)
abbrev Es := S → Env → Hc → T Out
def blk (x : Es) : List S → Env → Hc → T Out
  | [], ρ, h => .ok (.nx ρ h)
  | [s], ρ, h => x s ρ h
  | s :: ss, ρ, h => (x s ρ h).bind fun o => match o with
    | .nx ρ' h' => blk x ss ρ' h'
    | o => .ok o
def forGo (b : Env → Hc → T Out) (tg : List Nat) (tp : Bool) : List D → Env → Hc → T Out
  | [], ρ, h => .ok (.nx ρ h)
  | d :: ds, ρ, h => (T.opt (asg tg tp d ρ)).bind fun ρ' => (b ρ' h).bind fun o => match o with
    | .nx ρ2 h2 => forGo b tg tp ds ρ2 h2
    | .ct ρ2 h2 => forGo b tg tp ds ρ2 h2
    | .bk ρ2 h2 => .ok (.nx ρ2 h2)
    | o => .ok o
def whileGo (c : Env → Hc → T (Bool × Hc)) (b : Env → Hc → T Out) : Nat → Env → Hc → T Out
  | 0, _, _ => .no
  | n + 1, ρ, h => sx ρ (fun p => if p.1 then (b ρ p.2).bind fun o => match o with
    | .nx ρ2 h2 => whileGo c b n ρ2 h2
    | .ct ρ2 h2 => whileGo c b n ρ2 h2
    | .bk ρ2 h2 => .ok (.nx ρ2 h2)
    | o => .ok o
    else .ok (.nx ρ p.2)) (c ρ h)
def fzs : List Nat → Env → Hc → Option (Env × Hc)
  | [], ρ, h => some (ρ, h)
  | i :: is, ρ, h => match ρ[i]? with
    | some (some (.ref j)) => match h[j]? with
      | some (some d) => if boxd d then fzs is (ρ.set i (some d)) (h.set j none) else none
      | _ => none
    | _ => fzs is ρ h
def tbAt : List (Nat × Bool) → Nat → Option Bool
  | [], _ => none
  | (a, b) :: r, c => if Nat.beq a c then some b else tbAt r c
def hand : List Hd → Nat → Pl → Env → Hc → T Out
  | [], c, pl, ρ, h => .ok (.xx c pl ρ h)
  | .c tb i d :: r, c, pl, ρ, h => match tbAt tb c with
    | some true => .ok (.nx (ρ.set i (some d)) h)
    | some false => hand r c pl ρ h
    | none => .no
  | .f tb e i n :: r, c, pl, ρ, h => match tbAt tb c with
    | some true => match pl with
      | some fs => match lkF fs n with
        | some d => if e < ρ.length then .ok (.nx ((ρ.set i (some d)).set e none) h) else .no
        | none => .no
      | none => .no
    | some false => hand r c pl ρ h
    | none => .no
/-- what d[k] = e, xs[i] = e make of the cell -/
def putIx (c z y : D) : Option D := match c with
  | .dct t kvs => if fits t z && decide (kvs.length < lim) then some (.dct t (putD kvs z y)) else none
  | .lst xs => match z with
    | .int i => (ixN xs.length i).map fun n => .lst (xs.set n y)
    | _ => none
  | _ => none
def s_set (M : Md) (r : Ev) (t : Et) (x : Es) (ρ : Env) (h : Hc) (i : Nat) (e : E) : T Out := sx ρ (fun p => .ok (.nx (ρ.set i (some p.1)) p.2)) (vl r e ρ h)
def s_setT (M : Md) (r : Ev) (t : Et) (x : Es) (ρ : Env) (h : Hc) (tg : List Nat) (e : E) : T Out := sx ρ (fun p => match asg tg true p.1 ρ with
    | some ρ' => .ok (.nx ρ' p.2)
    | none => .no) (vl r e ρ h)
def s_setIx (M : Md) (r : Ev) (t : Et) (x : Es) (ρ : Env) (h : Hc) (a : E) (k : E) (v : E) : T Out := sx ρ (fun p => sx ρ (fun q => sx ρ (fun u => match q.1 with
    | .ref j => match u.2[j]? with
      | some (some c) => match putIx c u.1 p.1 with
        | some d => .ok (.nx ρ (u.2.set j (some d)))
        | none => .no
      | _ => .no
    | _ => .no) (vl r k ρ q.2)) (vl r a ρ p.2)) (vl r v ρ h)
def s_setFld (M : Md) (r : Ev) (t : Et) (x : Es) (ρ : Env) (h : Hc) (C0 : Nat) (a : E) (n : Tx) (v : E) : T Out := sx ρ (fun p => sx ρ (fun q => match q.1 with
    | .ref j => match q.2[j]? with
      | some (some (.ins C fs)) => if Nat.beq C C0 && Nat.blt fs.length 1000 then .ok (.nx ρ (q.2.set j (some (.ins C (putF n p.1 fs))))) else .no
      | _ => .no
    | _ => .no) (vl r a ρ p.2)) (vl r v ρ h)
def s_aug (M : Md) (r : Ev) (t : Et) (x : Es) (ρ : Env) (h : Hc) (i : Nat) (o : O2) (e : E) : T Out := match ρ[i]? with
    | some (some d) => sx ρ (fun p => match op2 p.2 o d p.1 with
      | some (false, z) => .ok (.nx (ρ.set i (some z)) p.2)
      | _ => .no) (vl r e ρ h)
    | _ => .no
def s_ex (M : Md) (r : Ev) (t : Et) (x : Es) (ρ : Env) (h : Hc) (e : E) : T Out := sx ρ (fun p => .ok (.nx ρ p.2)) (vl r e ρ h)
def s_ite (M : Md) (r : Ev) (t : Et) (x : Es) (ρ : Env) (h : Hc) (c : E) (a : List S) (b : List S) : T Out := sx ρ (fun p => if p.1 then blk x a ρ p.2 else blk x b ρ p.2) (t c ρ h)
def s_for_ (M : Md) (r : Ev) (t : Et) (x : Es) (ρ : Env) (h : Hc) (tg : List Nat) (tp : Bool) (k : Ik) (its : List E) (body : List S) : T Out := sx ρ (fun p => match items k p.1 with
    | some ds => forGo (blk x body) tg tp ds ρ p.2
    | none => .no) (vls r its ρ h)
def s_ret (M : Md) (r : Ev) (t : Et) (x : Es) (ρ : Env) (h : Hc) (e : E) : T Out := sx ρ (fun p => .ok (.rt p.1 p.2.1 p.2.2)) (r e ρ h)
def s_raise (M : Md) (r : Ev) (t : Et) (x : Es) (ρ : Env) (h : Hc) (C : Nat) (fl : Option Tx) (es : List E) : T Out := match fl, es with
    | none, [] => .ok (.xx C none ρ h)
    | some n, [e] => sx ρ (fun p => .ok (.xx C (some [(n, p.1)]) ρ p.2)) (vl r e ρ h)
    | _, _ => .no
def s_try_ (M : Md) (r : Ev) (t : Et) (x : Es) (ρ : Env) (h : Hc) (body : List S) (hs : List Hd) : T Out := (blk x body ρ h).bind fun o => match o with
    | .xx c pl ρ' h' => hand hs c pl ρ' h'
    | o => .ok o
def s_fz (M : Md) (r : Ev) (t : Et) (x : Es) (ρ : Env) (h : Hc) (is : List Nat) (s : S) : T Out := match fzs is ρ h with
    | some (ρ', h') => x s ρ' h'
    | none => .no
def allI : List D → Bool
  | [] => true
  | .int _ :: r => allI r
  | _ => false
/-- the cell of slot i is told to be the draws' cell -/
def s_zzc (M : Md) (r : Ev) (t : Et) (x : Es) (ρ : Env) (h : Hc) (i : Nat) (s : S) : T Out := match ρ[i]? with
  | some (some (.ref j)) => match h[j]? with
    | some (some (.lst [.lst qs, .int a, .int b, .int c])) => if allI qs && decide (0 ≤ a ∧ 0 ≤ b ∧ 0 ≤ c ∧ c < 2147483648) then x s ρ (h.set j (some .zz)) else .no
    | _ => .no
  | _ => .no
def stepS (r : Ev) (t : Et) (x : Es) (s : S) (ρ : Env) (h : Hc) : T Out := match s with
  | .set i e => s_set M r t x ρ h i e
  | .setT tg e => s_setT M r t x ρ h tg e
  | .setIx a k v => s_setIx M r t x ρ h a k v
  | .setFld C a n v => s_setFld M r t x ρ h C a n v
  | .aug i o e => s_aug M r t x ρ h i o e
  | .augIx a k v => .no
  | .ex e => s_ex M r t x ρ h e
  | .ite c a b => s_ite M r t x ρ h c a b
  | .for_ tg tp k its body => s_for_ M r t x ρ h tg tp k its body
  | .while_ c body => whileGo (t c) (blk x body) M.fuel ρ h
  | .ret e => s_ret M r t x ρ h e
  | .retN => .ok (.rt false .non h)
  | .raise C fl es => s_raise M r t x ρ h C fl es
  | .try_ body hs => s_try_ M r t x ρ h body hs
  | .pass => .ok (.nx ρ h)
  | .brk => .ok (.bk ρ h)
  | .fz is s => s_fz M r t x ρ h is s
  | .zzc i s => s_zzc M r t x ρ h i s
def evS (m : Nat) : Nat → Es
  | 0 => fun _ _ _ => .no
  | n + 1 => stepS M (evE M m).1 (evE M m).2 (evS m n)
/-- what a def's body ends in -/
def ends : Out → T Rs
  | .nx _ h => .ok (false, .non, h)
  | .rt f d h => .ok (f, d, h)
  | .xx c pl _ h => .ex c pl h
  | _ => .no
end
/-- a def: parameters, slots, body; a program -/
structure Fn where
  ps : Nat
  ns : Nat
  body : List S
def run1 (M : Md) (m n : Nat) (F : Option Fn) (ds : List D) (h : Hc) : T Rs := match F with
  | some F => if Nat.beq ds.length F.ps then (blk (evS M m n) F.body (ds.map some ++ List.replicate (F.ns - F.ps) none) h).calm.bind ends else .no
  | none => .no
structure Pg where
  fns : List (Option Fn)
  gls : List D
  mks : List (Nat × Nat × List D)
def run (P : Pg) (m n fuel : Nat) : Nat → Nat → List D → Hc → T Rs
  | 0, _, _, _ => .no
  | k + 1, f, ds, h => run1 ⟨fun j => P.mks.getD j (0, 0, []), run P m n fuel k, fun g => P.gls.getD g .non, fuel⟩ m n (P.fns.getD f none) ds h
end Yl

set_option maxRecDepth 100000
set_option maxHeartbeats 4000000
/-! Y1: data; what a value stands for (F: what never changes; m: where the cells stand); worlds; readings on data. -/
namespace Yl
open PySem PySem.Spec PyProof.Rows L2
abbrev St := L2.St
def ts (x : Tx) : Str := ⟨x.toArray⟩
def tyS : Nat → String
  | 0 => "NoneType"
  | 1 => "bool"
  | 2 => "int"
  | 3 => "str"
  | 4 => "tuple"
  | 5 => "list"
  | _ => "dict"
structure Mx where
  P : Program
  w : World
  K : PySem.W.Frag
  mg : Str → Option Value
  base : Heap
  ca : Nat → Addr
def kD : Key → D
  | .inl i => .int i
  | .inr s => .str s.cps.toList
def ktD (ks : List Key) : D := .tup (ks.map kD)
def At {α β : Type} (R : α → β → Prop) (xs : List α) (ys : List β) : Prop := xs.length = ys.length ∧ ∀ (i : Nat) x y, xs[i]? = some x → ys[i]? = some y → R x y
section
variable {α β : Type} {R R' : α → β → Prop} {xs : List α} {ys : List β} {x : α} {y : β}
theorem At.mono (h : ∀ x y, R x y → R' x y) (a : At R xs ys) : At R' xs ys := ⟨a.1, fun i x y e f => h _ _ (a.2 i x y e f)⟩
theorem At.nil : At R [] [] := ⟨rfl, fun i x y e _ => by simp at e⟩
theorem At.cons (h : R x y) (a : At R xs ys) : At R (x :: xs) (y :: ys) := ⟨by simp [a.1], fun i u v e f => by
  cases i with
  | zero =>
    simp at e f
    subst e f
    exact h
  | succ i => exact a.2 i u v (by simpa using e) (by simpa using f)⟩
theorem At.head (a : At R (x :: xs) (y :: ys)) : R x y := a.2 0 x y rfl rfl
theorem At.tail (a : At R (x :: xs) (y :: ys)) : At R xs ys := ⟨by simpa using a.1, fun i u v e f => a.2 (i + 1) u v (by simpa using e) (by simpa using f)⟩
theorem At.nil_inv (a : At R xs []) : xs = [] := List.eq_nil_of_length_eq_zero a.1
theorem At.cons_inv (a : At R xs (y :: ys)) : ∃ u us, xs = u :: us ∧ R u y ∧ At R us ys := by
  cases xs with
  | nil => exact absurd a.1 (by simp)
  | cons u us => exact ⟨u, us, rfl, a.head, a.tail⟩
theorem At.append {zs : List α} {ws : List β} (a : At R xs ys) (b : At R zs ws) : At R (xs ++ zs) (ys ++ ws) := by
  refine ⟨by simp [a.1, b.1], fun i u v e f => ?_⟩
  by_cases hi : i < xs.length
  · rw [List.getElem?_append_left hi] at e
    rw [List.getElem?_append_left (by rw [← a.1]; exact hi)] at f
    exact a.2 i u v e f
  · rw [List.getElem?_append_right (by omega)] at e
    rw [List.getElem?_append_right (by rw [← a.1]; omega), ← a.1] at f
    exact b.2 _ u v e f
theorem At.get (a : At R xs ys) {i : Nat} {v : β} (f : ys[i]? = some v) : ∃ u, xs[i]? = some u ∧ R u v := by
  have hi : i < ys.length := (List.getElem?_eq_some_iff.mp f).1
  have hj : i < xs.length := by rw [a.1]; exact hi
  exact ⟨xs[i], by simp [hj], a.2 i _ v (by simp [hj]) f⟩
theorem At.getL (a : At R xs ys) {i : Nat} {u : α} (f : xs[i]? = some u) : ∃ v, ys[i]? = some v ∧ R u v := by
  have hi : i < xs.length := (List.getElem?_eq_some_iff.mp f).1
  have hj : i < ys.length := by rw [← a.1]; exact hi
  exact ⟨ys[i], by simp [hj], a.2 i u _ f (by simp [hj])⟩
theorem At.take (a : At R xs ys) (n : Nat) : At R (xs.take n) (ys.take n) := ⟨by simp [a.1], fun i u v e f => by
  rw [List.getElem?_take] at e f
  split at e
  · rename_i h
    rw [if_pos h] at f
    exact a.2 i u v e f
  · cases e⟩
theorem At.drop (a : At R xs ys) (n : Nat) : At R (xs.drop n) (ys.drop n) := ⟨by simp [a.1], fun i u v e f => by
  rw [List.getElem?_drop] at e f
  exact a.2 _ u v e f⟩
theorem At.set (a : At R xs ys) (h : R x y) (n : Nat) : At R (xs.set n x) (ys.set n y) := ⟨by simp [a.1], fun i u v e f => by
  by_cases hi : n = i
  · subst hi
    rw [List.getElem?_set] at e f
    simp only [if_true] at e f
    split at e
    · split at f
      · cases e
        cases f
        exact h
      · cases f
    · cases e
  · rw [List.getElem?_set_ne hi] at e f
    exact a.2 i u v e f⟩
theorem At.map {γ δ : Type} {S : γ → δ → Prop} {f : α → γ} {g : β → δ} (a : At R xs ys) (h : ∀ x y, R x y → S (f x) (g y)) : At S (xs.map f) (ys.map g) := ⟨by simp [a.1], fun i u v e q => by
  rw [List.getElem?_map] at e q
  cases e1 : xs[i]? with
  | none => rw [e1] at e; cases e
  | some x =>
    cases e2 : ys[i]? with
    | none => rw [e2] at q; cases q
    | some y =>
      rw [e1] at e
      rw [e2] at q
      cases e
      cases q
      exact h _ _ (a.2 i x y e1 e2)⟩
theorem At.dropLast (a : At R xs ys) : At R xs.dropLast ys.dropLast := by
  rw [List.dropLast_eq_take, List.dropLast_eq_take, ← a.1]
  exact a.take _
theorem At.reverse (a : At R xs ys) : At R xs.reverse ys.reverse := ⟨by simp [a.1], fun i u v e f => by
  have hi : i < xs.length := by simpa using (List.getElem?_eq_some_iff.mp e).1
  rw [List.getElem?_reverse hi] at e
  rw [List.getElem?_reverse (by rw [← a.1]; exact hi), ← a.1] at f
  exact a.2 _ u v e f⟩
end

abbrev Sub (F F' : Hp) : Prop := ∀ a o, F a = some o → F' a = some o
/-- v stands for d -/
inductive Rep (M : Mx) (F : Hp) (m : List Addr) : V → D → Prop where
  | non : Rep M F m .non .non
  | bl (b : Bool) : Rep M F m (.bl b) (.bl b)
  | int (i : Int) : Rep M F m (.int i) (.int i)
  | str (x : Tx) : Rep M F m (.str (ts x)) (.str x)
  | ty (n : Nat) : Rep M F m (.ty (tyS n)) (.ty n)
  | cl (c : Nat) : Rep M F m (.ref (M.ca c)) (.cl c)
  | ref {i : Nat} {a : Addr} : m[i]? = some a → Rep M F m (.ref a) (.ref i)
  | kdct {a : Addr} {kvs : List (Tx × Int)} : (∃ es n, KDict M.K M.w a es n) → (∀ z : Tx, ∃ r, PySem.W.nsIn M.K a (ts z) = some r ∧ match kvs.lookup z with | some i => ∃ u, r = some u ∧ RelV (.int i) u | none => r = none) → Rep M F m (.ref a) (.kdct kvs)
  | tup {a : Addr} {vs : List V} {ds : List D} : F a = some (.tup vs) → vs.length = ds.length → (∀ (i : Nat) v d, vs[i]? = some v → ds[i]? = some d → Rep M F m v d) → Rep M F m (.ref a) (.tup ds)
  | ktup {a : Addr} {vs : List V} {ds : List D} : SqT M.K (fun _ => none) a vs → vs.length = ds.length → (∀ (i : Nat) v d, vs[i]? = some v → ds[i]? = some d → Rep M F m v d) → Rep M F m (.ref a) (.ktup ds)
  | lst {a : Addr} {vs : List V} {ds : List D} : F a = some (.lst vs) → vs.length = ds.length → (∀ (i : Nat) v d, vs[i]? = some v → ds[i]? = some d → Rep M F m v d) → Rep M F m (.ref a) (.lst ds)
  | dk {a : Addr} {vs : List (Key × V)} {ds : List (D × D)} : F a = some (.dK vs) → vs.length = ds.length → (∀ (i : Nat) v d, vs[i]? = some v → ds[i]? = some d → d.1 = kD v.1) → (∀ (i : Nat) v d, vs[i]? = some v → ds[i]? = some d → Rep M F m v.2 d.2) → Rep M F m (.ref a) (.dct false ds)
  | dt {a : Addr} {vs : List (List Key × V)} {ds : List (D × D)} : F a = some (.dT vs) → vs.length = ds.length → (∀ (i : Nat) v d, vs[i]? = some v → ds[i]? = some d → d.1 = ktD v.1) → (∀ (i : Nat) v d, vs[i]? = some v → ds[i]? = some d → Rep M F m v.2 d.2) → Rep M F m (.ref a) (.dct true ds)
  | ins {a dx : Addr} {C : Nat} {vs : List (Str × V)} {ds : List (Tx × D)} : F a = some (.ins (M.ca C) dx vs) → vs.length = ds.length → (∀ (i : Nat) v d, vs[i]? = some v → ds[i]? = some d → v.1 = ts d.1) → (∀ (i : Nat) v d, vs[i]? = some v → ds[i]? = some d → Rep M F m v.2 d.2) → Rep M F m (.ref a) (.ins C ds)
abbrev Pre (m m' : List Addr) : Prop := ∀ (i : Nat) (a : Addr), m[i]? = some a → m'[i]? = some a
theorem Rep.mono {M : Mx} {F F' : Hp} {m m' : List Addr} (s : Sub F F') (p : Pre m m') {v : V} {d : D} (r : Rep M F m v d) : Rep M F' m' v d := by
  induction r with
  | non => exact .non
  | bl b => exact .bl b
  | int i => exact .int i
  | str x => exact .str x
  | ty n => exact .ty n
  | cl c => exact .cl c
  | ref h => exact .ref (p _ _ h)
  | kdct h k => exact .kdct h k
  | tup h l _ ih => exact .tup (s _ _ h) l ih
  | ktup h l _ ih => exact .ktup h l ih
  | lst h l _ ih => exact .lst (s _ _ h) l ih
  | dk h l k _ ih => exact .dk (s _ _ h) l k ih
  | dt h l k _ ih => exact .dt (s _ _ h) l k ih
  | ins h l k _ ih => exact .ins (s _ _ h) l k ih
abbrev RepL (M : Mx) (F : Hp) (m : List Addr) : List V → List D → Prop := At (Rep M F m)
def KR (M : Mx) (F : Hp) (m : List Addr) (p : Key × V) (q : D × D) : Prop := q.1 = kD p.1 ∧ Rep M F m p.2 q.2
def TR (M : Mx) (F : Hp) (m : List Addr) (p : List Key × V) (q : D × D) : Prop := q.1 = ktD p.1 ∧ Rep M F m p.2 q.2
def FR (M : Mx) (F : Hp) (m : List Addr) (p : Str × V) (q : Tx × D) : Prop := p.1 = ts q.1 ∧ Rep M F m p.2 q.2
section
variable {M : Mx} {F F' : Hp} {m m' : List Addr} {a : Addr} {x : V} {ds : List D}
theorem RepL.mono {vs : List V} (s : Sub F F') (p : Pre m m') (h : RepL M F m vs ds) : RepL M F' m' vs ds := At.mono (fun _ _ r => r.mono s p) h
theorem Rep.tup_inv (r : Rep M F m x (.tup ds)) : ∃ a vs, x = .ref a ∧ F a = some (.tup vs) ∧ RepL M F m vs ds := by
  cases r with
  | tup h l p => exact ⟨_, _, rfl, h, l, p⟩
theorem Rep.ktup_inv (r : Rep M F m x (.ktup ds)) : ∃ a vs, x = .ref a ∧ SqT M.K (fun _ => none) a vs ∧ RepL M F m vs ds := by
  cases r with
  | ktup h l p => exact ⟨_, _, rfl, h, l, p⟩
theorem Rep.int_inv {i : Int} (r : Rep M F m x (.int i)) : x = .int i := by cases r; rfl
theorem Rep.bl_inv {i : Bool} (r : Rep M F m x (.bl i)) : x = .bl i := by cases r; rfl
theorem Rep.str_inv {i : Tx} (r : Rep M F m x (.str i)) : x = .str (ts i) := by cases r; rfl
theorem Rep.non_inv (r : Rep M F m x .non) : x = .non := by cases r; rfl
theorem Rep.ty_inv {i : Nat} (r : Rep M F m x (.ty i)) : x = .ty (tyS i) := by cases r; rfl
theorem Rep.cl_inv {i : Nat} (r : Rep M F m x (.cl i)) : x = .ref (M.ca i) := by cases r; rfl
theorem Rep.ref_inv {i : Nat} (r : Rep M F m x (.ref i)) : ∃ a, m[i]? = some a ∧ x = .ref a := by
  cases r with
  | ref h => exact ⟨_, h, rfl⟩
theorem Rep.zz_inv (r : Rep M F m x .zz) : False := by cases r
theorem SqT.k {K : PySem.W.Frag} {H : Hp} {vs : List V} (h : SqT K (fun _ => none) a vs) : SqT K H a vs := by
  rcases h with (h | ⟨o, h⟩) | h
  · cases h
  · cases h
  · exact .inr h
end
/-- the object o has the content d -/
def Cont (M : Mx) (F : Hp) (m : List Addr) : D → HO → Prop
  | .lst ds, .lst vs => RepL M F m vs ds
  | .dct t es, .dK vs => t = false ∧ At (KR M F m) vs es
  | .dct t es, .dT vs => t = true ∧ At (TR M F m) vs es
  | .ins C es, .ins C' _ vs => C' = M.ca C ∧ At (FR M F m) vs es
  | .zz, .lst vs => ∃ (q : Addr) (i c s : Int) (qs : List Int), vs = [.ref q, .int i, .int c, .int s] ∧ F q = some (.lst (qs.map V.int)) ∧ 0 ≤ i ∧ 0 ≤ c ∧ 0 ≤ s ∧ s < 2 ^ 31
  | _, _ => False
theorem Cont.mono {M : Mx} {F F' : Hp} {m m' : List Addr} (s : Sub F F') (p : Pre m m') {d : D} {o : HO} (h : Cont M F m d o) : Cont M F' m' d o := by
  cases d <;> cases o <;> first
    | exact h.elim
    | exact RepL.mono s p h
    | exact ⟨h.1, At.mono (fun _ _ r => ⟨r.1, r.2.mono s p⟩) h.2⟩
    | (obtain ⟨q, i, c, s', qs, a1, a2, a3⟩ := h; exact ⟨q, i, c, s', qs, a1, s _ _ a2, a3⟩)
theorem rep_box {M : Mx} {F : Hp} {m : List Addr} {a : Addr} {d : D} {u : HO} (b : boxd d = true) (h : F a = some u) (c : Cont M F m d u) : Rep M F m (.ref a) d := by
  cases d <;> first | (cases b; done) | skip
  all_goals cases u <;> first | exact c.elim | skip
  · exact .lst h c.1 c.2
  · obtain ⟨rfl, c⟩ := c
    exact .dk h c.1 (fun i v d e f => (c.2 i v d e f).1) fun i v d e f => (c.2 i v d e f).2
  · obtain ⟨rfl, c⟩ := c
    exact .dt h c.1 (fun i v d e f => (c.2 i v d e f).1) fun i v d e f => (c.2 i v d e f).2
  · obtain ⟨rfl, c⟩ := c
    exact .ins h c.1 (fun i v d e f => (c.2 i v d e f).1) fun i v d e f => (c.2 i v d e f).2
theorem rep_unbox {M : Mx} {F : Hp} {m : List Addr} {v : V} {d : D} (b : boxd d = true) (r : Rep M F m v d) : ∃ a u, v = .ref a ∧ F a = some u ∧ Cont M F m d u := by
  cases r <;> first | (cases b; done) | skip
  · rename_i h l p; exact ⟨_, _, rfl, h, l, p⟩
  · rename_i h l k p; exact ⟨_, _, rfl, h, rfl, l, fun i v d e f => ⟨k i v d e f, p i v d e f⟩⟩
  · rename_i h l k p; exact ⟨_, _, rfl, h, rfl, l, fun i v d e f => ⟨k i v d e f, p i v d e f⟩⟩
  · rename_i h l k p; exact ⟨_, _, rfl, h, rfl, l, fun i v d e f => ⟨k i v d e f, p i v d e f⟩⟩
/-! ### what may be read -/
def lk : HO → Bool
  | .dK _ => true
  | .dT _ => true
  | _ => false
def RdT (H : Hp) (a : Addr) (o : HO) : Prop := Rd H a o ∧ (lk o = false → H a = some o)
theorem RdT.of {H : Hp} {a : Addr} {o : HO} (h : H a = some o) : RdT H a o := ⟨.inl h, fun _ => h⟩
theorem RdT.upd {H : Hp} {a p : Addr} {o u : HO} (n : a ≠ p) (h : RdT H a o) : RdT (L2.upd H p u) a o := by
  refine ⟨?_, fun z => by rw [upd_ne n]; exact h.2 z⟩
  rcases h.1 with z | ⟨ob, z⟩
  · exact .inl (by rw [upd_ne n]; exact z)
  · exact .inr ⟨ob, by rw [upd_ne n]; exact z⟩
theorem RdT.ne {H : Hp} {a p : Addr} {o : HO} (h : RdT H a o) (hp : H p = none) : a ≠ p := fun e => by
  subst e
  rcases h.1 with z | ⟨_, z⟩ <;> (rw [hp] at z; cases z)
abbrev Le (F H : Hp) : Prop := ∀ a o, F a = some o → RdT H a o
theorem Le.sub {F F' H : Hp} (h : Sub F F') (l : Le F' H) : Le F H := fun a o e => l a o (h a o e)
theorem le_none {F H : Hp} {p : Addr} (le : Le F H) (h : H p = none) : F p = none := by
  cases q : F p with
  | none => rfl
  | some u => exact absurd rfl ((le _ _ q).ne h)
theorem sub_upd {F : Hp} {p : Addr} {o : HO} (h : F p = none) : Sub F (upd F p o) := fun a u e => by rw [upd_ne (ne_of_none e h)]; exact e
/-! ### worlds -/
structure Wd where
  F : Hp
  m : List Addr
  h : Hc
/-- the cell i lives, at a -/
def Live (w : Wd) (i : Nat) (a : Addr) : Prop := (∃ d, w.h[i]? = some (some d)) ∧ w.m[i]? = some a
structure WOk (M : Mx) (w : Wd) (H : Hp) : Prop where
  le : Le w.F H
  lm : w.m.length = w.h.length
  al : ∀ (i : Nat) d, w.h[i]? = some (some d) → ∃ a u, w.m[i]? = some a ∧ w.F a = none ∧ H a = some u ∧ Cont M w.F w.m d u
  inj : ∀ (i j : Nat) a, Live w i a → Live w j a → i = j
structure SOk (M : Mx) (w : Wd) (σ : St) (ρ : Env) : Prop where
  len : σ.length = ρ.length
  sl : ∀ (i : Nat) d, ρ[i]? = some (some d) → ∃ v, σ[i]? = some (some v) ∧ Rep M w.F w.m v d
/-- from one world to a later one -/
structure Ext (w : Wd) (H : Hp) (w' : Wd) (H' : Hp) : Prop where
  ff : Sub w.F w'.F
  mm : Pre w.m w'.m
  hh : ∀ a o, H a = some o → (∀ i, ¬ Live w i a) → H' a = some o
  nn : ∀ a, H' a = none → H a = none
  fr : ∀ a o, w'.F a = some o → w.F a = some o ∨ H a = none ∨ (∃ vs, H a = some (.tup vs)) ∨ ∃ i, Live w i a
  cl : ∀ i a, Live w' i a → (∃ j, Live w j a) ∨ H a = none
section
variable {M : Mx} {w w' w1 w2 : Wd} {H H' H1 H2 : Hp} {σ : St} {ρ : Env}
theorem Ext.refl : Ext w H w H := ⟨fun _ _ h => h, fun _ _ h => h, fun _ _ h _ => h, fun _ h => h, fun _ _ h => .inl h, fun i _ h => .inl ⟨i, h⟩⟩
theorem Ext.trans (a : Ext w H w1 H1) (b : Ext w1 H1 w2 H2) : Ext w H w2 H2 where
  ff := fun x o h => b.ff x o (a.ff x o h)
  mm := fun i x h => b.mm i x (a.mm i x h)
  hh := fun x o h n => b.hh x o (a.hh x o h n) fun i l => by
    rcases a.cl i x l with ⟨j, l⟩ | l
    · exact n j l
    · rw [h] at l; cases l
  nn := fun x h => a.nn x (b.nn x h)
  fr := fun x o h => by
    rcases b.fr x o h with q | q | ⟨vs, q⟩ | ⟨i, q⟩
    · exact a.fr x o q
    · exact .inr (.inl (a.nn x q))
    · cases e : H x with
      | none => exact .inr (.inl rfl)
      | some u =>
        by_cases l : ∃ i, Live w i x
        · exact .inr (.inr (.inr l))
        · have := a.hh x u e fun i z => l ⟨i, z⟩
          rw [q] at this; cases this
          exact .inr (.inr (.inl ⟨vs, rfl⟩))
    · rcases a.cl i x q with l | l
      · exact .inr (.inr (.inr l))
      · exact .inr (.inl l)
  cl := fun i x l => by
    rcases b.cl i x l with ⟨j, l⟩ | l
    · exact a.cl j x l
    · exact .inr (a.nn x l)
theorem SOk.ext (s : SOk M w σ ρ) (e : Ext w H w' H') : SOk M w' σ ρ := ⟨s.len, fun i d h => by
  obtain ⟨v, a, r⟩ := s.sl i d h
  exact ⟨v, a, r.mono e.ff e.mm⟩⟩
theorem WOk.at (k : WOk M w H) {i : Nat} {d : D} (h : w.h[i]? = some (some d)) : ∃ a u, w.m[i]? = some a ∧ w.F a = none ∧ H a = some u ∧ Cont M w.F w.m d u := k.al i d h
/-- nothing but what is new -/
theorem WOk.keep (k : WOk M w H) (ff : Sub w.F w'.F) (em : w'.m = w.m) (eh : w'.h = w.h) (le : Le w'.F H') (hh : ∀ i a o, Live w i a → H a = some o → H' a = some o) (hf : ∀ i a, Live w i a → w'.F a = none) : WOk M w' H' := by
  refine ⟨le, by rw [em, eh]; exact k.lm, fun i d h => ?_, fun i j a x y => ?_⟩
  · rw [eh] at h
    obtain ⟨a, u, h1, h2, h3, h4⟩ := k.al i d h
    exact ⟨a, u, by rw [em]; exact h1, hf i a ⟨⟨d, h⟩, h1⟩, hh i a u ⟨⟨d, h⟩, h1⟩ h3, h4.mono ff (by rw [em]; exact fun _ _ z => z)⟩
  · unfold Live at x y
    rw [eh, em] at x y
    exact k.inj i j a x y
theorem live_some (k : WOk M w H) {i : Nat} {a : Addr} (l : Live w i a) : ∃ u, H a = some u ∧ w.F a = none := by
  obtain ⟨⟨d, h⟩, e⟩ := l
  obtain ⟨a', u, h1, h2, h3, _⟩ := k.al i d h
  rw [e] at h1; cases h1
  exact ⟨u, h3, h2⟩
/-- a new object laid, not yet told of -/
theorem ext_lay (k : WOk M w H) {p : Addr} {o : HO} (hp : H p = none) : Ext w H w (upd H p o) ∧ WOk M w (upd H p o) := by
  have fp := le_none k.le hp
  refine ⟨⟨fun _ _ h => h, fun _ _ h => h, fun a u h _ => by rw [upd_ne (ne_of_none h hp)]; exact h, fun a h => ?_, fun _ _ h => .inl h, fun i _ h => .inl ⟨i, h⟩⟩, ?_⟩
  · by_cases q : a = p
    · rw [q]; exact hp
    · rw [upd_ne q] at h; exact h
  · refine k.keep (fun _ _ h => h) rfl rfl (fun a u h => (k.le a u h).upd (ne_of_none h fp)) (fun i a u l h => by rw [upd_ne (ne_of_none h hp)]; exact h) fun i a l => (live_some k l).choose_spec.2
/-- a thing that is no cell is told to be frozen -/
abbrev Wd.fz (w : Wd) (p : Addr) (u : HO) : Wd := { w with F := upd w.F p u }
theorem ext_fz (k : WOk M w H) {p : Addr} {u : HO} (hp : H p = some u) (fp : w.F p = none) (nl : ∀ i, ¬ Live w i p) (h0 : H' p = none ∨ (∃ vs, H' p = some (.tup vs)) ∨ ∃ j, Live w' j p) (e0 : Ext w' H' w H) : Ext w' H' (w.fz p u) H ∧ WOk M (w.fz p u) H := by
  refine ⟨⟨fun a o h => sub_upd fp a o (e0.ff a o h), e0.mm, e0.hh, e0.nn, fun a o h => ?_, e0.cl⟩, ?_⟩
  · by_cases q : a = p
    · subst q
      rcases h0 with h0 | h0 | h0
      · exact .inr (.inl h0)
      · exact .inr (.inr (.inl h0))
      · exact .inr (.inr (.inr h0))
    · have h : upd w.F p u a = some o := h
      rw [upd_ne q] at h; exact e0.fr a o h
  · refine k.keep (w' := w.fz p u) (sub_upd fp) rfl rfl (fun a o h => ?_) (fun i a o l h => h) fun i a l => ?_
    · by_cases q : a = p
      · subst q
        have h : upd w.F a u a = some o := h
        rw [upd_same] at h; cases h; exact .of hp
      · have h : upd w.F p u a = some o := h
        rw [upd_ne q] at h; exact k.le a o h
    · show upd w.F p u a = none
      rw [upd_ne (fun q => nl i (by rw [← q]; exact l))]
      exact (live_some k l).choose_spec.2
/-- .. or a new cell -/
abbrev Wd.new (w : Wd) (p : Addr) (d : D) : Wd := { w with m := w.m ++ [p], h := w.h ++ [some d] }
theorem live_new (lm : w.m.length = w.h.length) {p : Addr} {d : D} {i : Nat} {a : Addr} (l : Live (w.new p d) i a) : Live w i a ∨ (i = w.h.length ∧ a = p) := by
  obtain ⟨⟨d', h⟩, e⟩ := l
  by_cases hi : i < w.h.length
  · rw [List.getElem?_append_left hi] at h
    rw [List.getElem?_append_left (by rw [lm]; exact hi)] at e
    exact .inl ⟨⟨d', h⟩, e⟩
  · have h1 : i < (w.h ++ [some d]).length := (List.getElem?_eq_some_iff.mp h).1
    have : i = w.h.length := by simp at h1; omega
    subst this
    have e : (w.m ++ [p])[w.h.length]? = some a := e
    rw [← lm] at e
    simp at e
    exact .inr ⟨rfl, e.symm⟩
theorem pre_app {m : List Addr} {p : Addr} : Pre m (m ++ [p]) := fun i a h => by rw [List.getElem?_append_left (List.getElem?_eq_some_iff.mp h).1]; exact h
theorem ext_new (k : WOk M w H) {p : Addr} {u : HO} {d : D} (hp : H p = some u) (fp : w.F p = none) (nl : ∀ i, ¬ Live w i p) (h0 : H' p = none ∨ ∃ j, Live w' j p) (c : Cont M w.F w.m d u) (e0 : Ext w' H' w H) : Ext w' H' (w.new p d) H ∧ WOk M (w.new p d) H := by
  refine ⟨⟨e0.ff, fun i a h => pre_app i a (e0.mm i a h), e0.hh, e0.nn, e0.fr, fun i a l => ?_⟩, ⟨k.le, by simp [k.lm], fun i d' h => ?_, fun i j a x y => ?_⟩⟩
  · rcases live_new k.lm l with l | ⟨_, rfl⟩
    · exact e0.cl i a l
    · exact h0.symm
  · have h : (w.h ++ [some d])[i]? = some (some d') := h
    by_cases hi : i < w.h.length
    · rw [List.getElem?_append_left hi] at h
      obtain ⟨a, u', h1, h2, h3, h4⟩ := k.al i d' h
      exact ⟨a, u', pre_app i a h1, h2, h3, h4.mono (fun _ _ z => z) pre_app⟩
    · have h1 : i < (w.h ++ [some d]).length := (List.getElem?_eq_some_iff.mp h).1
      have : i = w.h.length := by simp at h1; omega
      subst this
      simp at h
      subst h
      exact ⟨p, u, by show (w.m ++ [p])[w.h.length]? = _; rw [← k.lm]; simp, fp, hp, c.mono (fun _ _ z => z) pre_app⟩
  · rcases live_new k.lm x with x | ⟨e1, e2⟩
    · rcases live_new k.lm y with y | ⟨f1, f2⟩
      · exact k.inj i j a x y
      · exact absurd x (by rw [f2]; exact nl i)
    · rcases live_new k.lm y with y | ⟨f1, f2⟩
      · exact absurd y (by rw [e2]; exact nl j)
      · rw [e1, f1]
/-- the cell i gets another content -/
abbrev Wd.put (w : Wd) (i : Nat) (o : Option D) : Wd := { w with h := w.h.set i o }
theorem live_put {i j : Nat} {o : Option D} {a : Addr} (l : Live (w.put i o) j a) : (∃ d, w.h[i]? = some (some d)) → Live w j a := fun ⟨d0, h0⟩ => by
  obtain ⟨⟨d', h⟩, e⟩ := l
  have h : (w.h.set i o)[j]? = some (some d') := h
  by_cases hj : i = j
  · subst hj; exact ⟨⟨d0, h0⟩, e⟩
  · rw [List.getElem?_set_ne hj] at h; exact ⟨⟨d', h⟩, e⟩
theorem ext_put (k : WOk M w H) {i : Nat} {a : Addr} {d0 d : D} {u : HO} (h0 : w.h[i]? = some (some d0)) (ha : w.m[i]? = some a) (c : Cont M w.F w.m d u) : Ext w H (w.put i (some d)) (upd H a u) ∧ WOk M (w.put i (some d)) (upd H a u) := by
  have la : Live w i a := ⟨⟨d0, h0⟩, ha⟩
  obtain ⟨a', u0, m1, fa, hp, _⟩ := k.al i d0 h0
  rw [ha] at m1; cases m1
  refine ⟨⟨fun _ _ h => h, fun _ _ h => h, fun b o h n => ?_, fun b h => ?_, fun _ _ h => .inl h, fun j b l => .inl ⟨j, live_put l ⟨d0, h0⟩⟩⟩, ⟨fun b o h => (k.le b o h).upd (ne_of_none h fa), by simp [k.lm], fun j d' h => ?_, fun j l b x y => k.inj j l b (live_put x ⟨d0, h0⟩) (live_put y ⟨d0, h0⟩)⟩⟩
  · rw [upd_ne (fun q => n i (by rw [q]; exact la))]; exact h
  · by_cases q : b = a
    · subst q; rw [upd_same] at h; cases h
    · rw [upd_ne q] at h; exact h
  · have h : (w.h.set i (some d))[j]? = some (some d') := h
    by_cases hj : i = j
    · subst hj
      rw [List.getElem?_set_self (List.getElem?_eq_some_iff.mp h0).1] at h
      cases h
      exact ⟨a, u, ha, fa, upd_same, c⟩
    · rw [List.getElem?_set_ne hj] at h
      obtain ⟨b, o, h1, h2, h3, h4⟩ := k.al j d' h
      exact ⟨b, o, h1, h2, by rw [upd_ne (fun q => hj (k.inj i j a la ⟨⟨d', h⟩, by rw [← q]; exact h1⟩))]; exact h3, h4⟩
/-- the cell i is no cell any more -/
theorem ext_dead (k : WOk M w H) {i : Nat} {d0 : D} (h0 : w.h[i]? = some (some d0)) : Ext w H (w.put i none) H ∧ WOk M (w.put i none) H := by
  refine ⟨⟨fun _ _ h => h, fun _ _ h => h, fun b o h n => h, fun b h => h, fun _ _ h => .inl h, fun j b l => .inl ⟨j, live_put l ⟨d0, h0⟩⟩⟩, ⟨k.le, by simp [k.lm], fun j d' h => ?_, fun j l b x y => k.inj j l b (live_put x ⟨d0, h0⟩) (live_put y ⟨d0, h0⟩)⟩⟩
  have h : (w.h.set i none)[j]? = some (some d') := h
  by_cases hj : i = j
  · subst hj
    rw [List.getElem?_set_self (List.getElem?_eq_some_iff.mp h0).1] at h
    cases h
  · rw [List.getElem?_set_ne hj] at h
    exact k.al j d' h
theorem dead_live {i : Nat} {d0 : D} (k : WOk M w H) (h0 : w.h[i]? = some (some d0)) {a : Addr} (ha : w.m[i]? = some a) : ∀ j, ¬ Live (w.put i none) j a := fun j l => by
  have := k.inj i j a ⟨⟨d0, h0⟩, ha⟩ (live_put l ⟨d0, h0⟩)
  subst this
  obtain ⟨⟨d', h⟩, _⟩ := l
  have h : (w.h.set i none)[i]? = some (some d') := h
  rw [List.getElem?_set_self (List.getElem?_eq_some_iff.mp h0).1] at h
  cases h
end
/-- what an expression gives: a value (fr = false), or a thing that is new and not yet told of, its content d -/
def RR (M : Mx) (w0 : Wd) (H0 : Hp) (w : Wd) (H : Hp) (v : V) : Bool → D → Prop
  | false, d => Rep M w.F w.m v d
  | true, d => boxd d = true ∧ ∃ p u, v = .ref p ∧ H p = some u ∧ w.F p = none ∧ (∀ i, ¬ Live w i p) ∧ (H0 p = none ∨ ∃ j, Live w0 j p) ∧ Cont M w.F w.m d u
/-! ### wishes about exceptions -/
structure Gx where
  W : WX
  PX : Nat → Pl → Env → Hc → Prop
def PlRep (M : Mx) (w : Wd) (H : Hp) (d : Option Addr) : Pl → Prop
  | none => d = none
  | some es => ∃ dx vs, d = some dx ∧ H dx = some (.xd vs) ∧ At (FR M w.F w.m) vs es
def XC (M : Mx) (G : Gx) (w : Wd) (H : Hp) (σ : St) (ρ : Env) : Prop := ∀ c pl d w' H', G.PX c pl ρ w'.h → Ext w H w' H' → WOk M w' H' → PlRep M w' H' d pl → G.W (.ref (M.ca c)) d σ H'
theorem XC.ext {M : Mx} {G : Gx} {w w' : Wd} {H H' : Hp} {σ : St} {ρ : Env} (x : XC M G w H σ ρ) (e : Ext w H w' H') : XC M G w' H' σ ρ := fun c pl d w2 H2 p e2 k r => x c pl d w2 H2 p (e.trans e2) k r
/-! ### readings on data -/
def FV (M : Mx) (G : Gx) (t : TE) (ρ : Env) (h : Hc) (P : Bool → D → Hc → Prop) : Prop := ∀ σ w H (Q : VK), w.h = h → WOk M w H → SOk M w σ ρ → XC M G w H σ ρ → (∀ f d v w1 H1, P f d w1.h → Ext w H w1 H1 → WOk M w1 H1 → RR M w H w1 H1 v f d → Q v H1) → t σ H Q
def EV (M : Mx) (G : Gx) (t : TE) (ρ : Env) (h : Hc) (P : D → Hc → Prop) : Prop := ∀ σ w H (Q : VK), w.h = h → WOk M w H → SOk M w σ ρ → XC M G w H σ ρ → (∀ d v w1 H1, P d w1.h → Ext w H w1 H1 → WOk M w1 H1 → Rep M w1.F w1.m v d → Q v H1) → t σ H Q
def TV (M : Mx) (G : Gx) (t : TT) (ρ : Env) (h : Hc) (P : Bool → Hc → Prop) : Prop := ∀ σ w H (Q : Bool → Hp → Prop), w.h = h → WOk M w H → SOk M w σ ρ → XC M G w H σ ρ → (∀ b w1 H1, P b w1.h → Ext w H w1 H1 → WOk M w1 H1 → Q b H1) → t σ H Q
def AV (M : Mx) (G : Gx) (t : TA) (ρ : Env) (h : Hc) (P : List D → Hc → Prop) : Prop := ∀ σ w H (Q : List V → Hp → Prop), w.h = h → WOk M w H → SOk M w σ ρ → XC M G w H σ ρ → (∀ ds vs w1 H1, P ds w1.h → Ext w H w1 H1 → WOk M w1 H1 → RepL M w1.F w1.m vs ds → Q vs H1) → t σ H Q
/-- the weakest readings -/
def rdE (X : Cx) (e : Expr) : TE := fun σ H Q => ∀ pins s, Inv X pins σ H s → wpAny (model X.prog X.w) X.A (eval e X.env) (EP X pins σ Q) X.xe s
def rdT (X : Cx) (e : Expr) : TT := fun σ H Q => ∀ pins s, Inv X pins σ H s → wpAny (model X.prog X.w) X.A (isTrue e X.env (eval e X.env)) (TP X pins σ Q) X.xe s
def rdW (X : Cx) (e : Expr) : TT := fun σ H Q => ∀ whole pins s, Inv X pins σ H s → wpAny (model X.prog X.w) X.A (isTrue e X.env whole) (TP X pins σ Q) X.xe s
def rdA (X : Cx) (es : List Expr) : TA := fun σ H Q => ∀ pos pins s, Inv X pins σ H s → wpAny (model X.prog X.w) X.A (spliced (backTo pos (starEach es X.env))) (AP X pins σ Q) X.xe s
def rdS (X : Cx) (st : Stmt) : TS := fun D σ H => ∀ pins s, Inv X pins σ H s → wpAny (model X.prog X.w) X.A (exec st X.env) (SP X pins D) X.xe s
def rdB (X : Cx) (st : List Stmt) : TS := fun D σ H => ∀ pins s, Inv X pins σ H s → wpAny (model X.prog X.w) X.A (execs st X.env) (SP X pins D) X.xe s
def rdG (X : Cx) (tg : Expr) : TG := fun v σ H Q => ∀ pins s u, Inv X pins σ H s → RelV v u → wpAny (model X.prog X.w) X.A (assign tg X.env u) (fun _ s' => ∃ σ' H', Inv X pins σ' H' s' ∧ Q σ' H') X.xe s
section
variable {X : Cx} {e tg : Expr} {es : List Expr} {st : Stmt} {sts : List Stmt}
theorem pe_rd : PE X e (rdE X e) := ⟨fun pins s _ _ _ I h => h pins s I⟩
theorem pt_rd : PT X e (rdT X e) := ⟨fun pins s _ _ _ I h => h pins s I⟩
theorem pw_rd : PW X e (rdW X e) := ⟨fun wh pins s _ _ _ I h => h wh pins s I⟩
theorem pa_rd : PA X es (rdA X es) := ⟨fun pos pins s _ _ _ I h => h pos pins s I⟩
theorem ps_rd : PS X st (rdS X st) := ⟨fun pins s _ _ _ I h => h pins s I⟩
theorem pb_rd : PSs X sts (rdB X sts) := ⟨fun pins s _ _ _ I h => h pins s I⟩
theorem pg_rd : PG X tg (rdG X tg) := ⟨fun pins s _ _ _ u _ I r h => h pins s u I r⟩
end
def FX (X : Cx) (M : Mx) (G : Gx) (e : Expr) (ρ : Env) (h : Hc) (P : Bool → D → Hc → Prop) : Prop := FV M G (rdE X e) ρ h P
def EX (X : Cx) (M : Mx) (G : Gx) (e : Expr) (ρ : Env) (h : Hc) (P : D → Hc → Prop) : Prop := EV M G (rdE X e) ρ h P
def TX (X : Cx) (M : Mx) (G : Gx) (e : Expr) (ρ : Env) (h : Hc) (P : Bool → Hc → Prop) : Prop := TV M G (rdT X e) ρ h P
def WXX (X : Cx) (M : Mx) (G : Gx) (e : Expr) (ρ : Env) (h : Hc) (P : Bool → Hc → Prop) : Prop := TV M G (rdW X e) ρ h P
def AX (X : Cx) (M : Mx) (G : Gx) (es : List Expr) (ρ : Env) (h : Hc) (P : List D → Hc → Prop) : Prop := AV M G (rdA X es) ρ h P
section
variable {X : Cx} {M : Mx} {G : Gx} {e : Expr} {es : List Expr} {ρ : Env} {h : Hc} {PF : Bool → D → Hc → Prop} {P P' : D → Hc → Prop} {PT' PT'' : Bool → Hc → Prop} {PA' : List D → Hc → Prop} {t : TE} {tt : TT} {ta : TA}
theorem FX.of (p : PE X e t) (k : FV M G t ρ h PF) : FX X M G e ρ h PF := fun σ w H Q eh wk sk xc q pins s I => p.run pins s σ H Q I (k σ w H Q eh wk sk xc q)
theorem EX.of (p : PE X e t) (k : EV M G t ρ h P) : EX X M G e ρ h P := fun σ w H Q eh wk sk xc q pins s I => p.run pins s σ H Q I (k σ w H Q eh wk sk xc q)
theorem TX.of (p : PT X e tt) (k : TV M G tt ρ h PT') : TX X M G e ρ h PT' := fun σ w H Q eh wk sk xc q pins s I => p.run pins s σ H Q I (k σ w H Q eh wk sk xc q)
theorem WXX.of (p : PW X e tt) (k : TV M G tt ρ h PT') : WXX X M G e ρ h PT' := fun σ w H Q eh wk sk xc q wh pins s I => p.run wh pins s σ H Q I (k σ w H Q eh wk sk xc q)
theorem AX.of (p : PA X es ta) (k : AV M G ta ρ h PA') : AX X M G es ρ h PA' := fun σ w H Q eh wk sk xc q pos pins s I => p.run pos pins s σ H Q I (k σ w H Q eh wk sk xc q)
theorem WXX.tx (p : WXX X M G e ρ h PT') : TX X M G e ρ h PT' := fun σ w H Q eh wk sk xc q pins s I => p σ w H Q eh wk sk xc q _ pins s I
/-- a value is a value -/
theorem EX.fx (p : EX X M G e ρ h fun d h' => PF false d h') : FX X M G e ρ h PF := fun σ w H Q eh wk sk xc q => p σ w H Q eh wk sk xc fun d v w1 H1 pd e1 k1 r => q false d v w1 H1 pd e1 k1 r
/-- a new thing is told to be frozen -/
theorem FX.ex (p : FX X M G e ρ h fun _ d h' => P d h') : EX X M G e ρ h P := fun σ w H Q eh wk sk xc q => p σ w H Q eh wk sk xc fun f d v w1 H1 pd e1 k1 r => by
  cases f with
  | false => exact q d v w1 H1 pd e1 k1 r
  | true =>
    obtain ⟨b, p, u, rfl, hp, fp, nl, h0, c⟩ := r
    obtain ⟨e2, k2⟩ := ext_fz k1 hp fp nl (h0.imp id .inr) e1
    exact q d _ (w1.fz p u) H1 pd e2 k2 (rep_box b upd_same (c.mono (sub_upd fp) fun _ _ z => z))
/-- .. a new cell -/
theorem FX.new (p : FX X M G e ρ h fun f d h' => f = true ∧ P (.ref h'.length) (h' ++ [some d])) : EX X M G e ρ h P := fun σ w H Q eh wk sk xc q => p σ w H Q eh wk sk xc fun f d v w1 H1 pd e1 k1 r => by
  obtain ⟨rfl, pd⟩ := pd
  obtain ⟨b, p, u, rfl, hp, fp, nl, h0, c⟩ := r
  obtain ⟨e2, k2⟩ := ext_new k1 hp fp nl h0 c e1
  exact q _ _ (w1.new p d) H1 pd e2 k2 (.ref (by show (w1.m ++ [p])[w1.h.length]? = _; rw [← k1.lm]; simp))
theorem FX.mono {PF' : Bool → D → Hc → Prop} (p : FX X M G e ρ h PF) (k : ∀ f d h, PF f d h → PF' f d h) : FX X M G e ρ h PF' := fun σ w H Q eh wk sk xc q => p σ w H Q eh wk sk xc fun f d v w1 H1 pd => q f d v w1 H1 (k f d _ pd)
theorem EX.mono (p : EX X M G e ρ h P) (k : ∀ d h, P d h → P' d h) : EX X M G e ρ h P' := fun σ w H Q eh wk sk xc q => p σ w H Q eh wk sk xc fun d v w1 H1 pd => q d v w1 H1 (k d _ pd)
theorem TX.mono (p : TX X M G e ρ h PT') (k : ∀ d h, PT' d h → PT'' d h) : TX X M G e ρ h PT'' := fun σ w H Q eh wk sk xc q => p σ w H Q eh wk sk xc fun d w1 H1 pd => q d w1 H1 (k d _ pd)
end
end Yl

set_option maxRecDepth 100000
set_option maxHeartbeats 4000000
/-! Y2: statements on data; a def's contract; names, constants, assignments, ifs, loops. -/
namespace Yl
open PySem PySem.Spec PyProof.Rows L2
section
variable {M : Mx} {w0 w w' : Wd} {H0 H H' : Hp} {σ : St} {ρ : Env}
theorem RR.back {w1 : Wd} {H1 : Hp} {v : V} {f : Bool} {d : D} (e : Ext w0 H0 w1 H1) (r : RR M w1 H1 w H v f d) : RR M w0 H0 w H v f d := by
  cases f with
  | false => exact r
  | true =>
    obtain ⟨b, p, u, rfl, hp, fp, nl, h0, c⟩ := r
    refine ⟨b, p, u, rfl, hp, fp, nl, ?_, c⟩
    rcases h0 with h0 | ⟨j, h0⟩
    · exact .inl (e.nn p h0)
    · exact (e.cl j p h0).symm
theorem SOk.set (s : SOk M w σ ρ) {i : Nat} {v : V} {d : D} (r : Rep M w.F w.m v d) : SOk M w (σ.set i (some v)) (ρ.set i (some d)) := ⟨by simp [s.len], fun j e h => by
  by_cases hj : i = j
  · subst hj
    have hi : i < ρ.length := by simpa using (List.getElem?_eq_some_iff.mp h).1
    rw [List.getElem?_set_self hi] at h
    cases h
    exact ⟨v, by rw [List.getElem?_set_self (by rw [s.len]; exact hi)], r⟩
  · rw [List.getElem?_set_ne hj] at h
    rw [List.getElem?_set_ne hj]
    exact s.sl j e h⟩
theorem SOk.unset (s : SOk M w σ ρ) (i : Nat) : SOk M w (σ.set i none) (ρ.set i none) := ⟨by simp [s.len], fun j e h => by
  by_cases hj : i = j
  · subst hj
    rw [List.getElem?_set] at h
    simp only [if_true] at h
    split at h <;> cases h
  · rw [List.getElem?_set_ne hj] at h
    rw [List.getElem?_set_ne hj]
    exact s.sl j e h⟩
/-- slot i is told anew: what stands in it stands for d -/
theorem SOk.reset (s : SOk M w σ ρ) {i : Nat} {d : D} (hr : ∀ v, σ[i]? = some (some v) → Rep M w.F w.m v d) (h : ∃ d0, ρ[i]? = some (some d0)) : SOk M w σ (ρ.set i (some d)) := ⟨by simp [s.len], fun j e h' => by
  by_cases hj : i = j
  · subst hj
    obtain ⟨d0, hd⟩ := h
    rw [List.getElem?_set_self (List.getElem?_eq_some_iff.mp hd).1] at h'
    cases h'
    obtain ⟨v, hv, _⟩ := s.sl i d0 hd
    exact ⟨v, hv, hr v hv⟩
  · rw [List.getElem?_set_ne hj] at h'
    exact s.sl j e h'⟩
end
def NxOk (M : Mx) (w0 : Wd) (H0 : Hp) (Q : St → Hp → Prop) (ρ : Env) (h : Hc) : Prop := ∀ σ w H, w.h = h → Ext w0 H0 w H → WOk M w H → SOk M w σ ρ → Q σ H
def OutOk (M : Mx) (w0 : Wd) (H0 : Hp) (Dn : Ends) : Out → Prop
  | .nx ρ h => NxOk M w0 H0 Dn.nx ρ h
  | .rt f d h => ∀ v w H, w.h = h → Ext w0 H0 w H → WOk M w H → RR M w0 H0 w H v f d → Dn.rt v H
  | .bk ρ h => NxOk M w0 H0 Dn.bk ρ h
  | .ct ρ h => NxOk M w0 H0 Dn.ct ρ h
  | .xx _ _ _ _ => True
def XCS (M : Mx) (G : Gx) (w0 : Wd) (H0 : Hp) : Prop := ∀ c pl d σ w H ρ, G.PX c pl ρ w.h → Ext w0 H0 w H → WOk M w H → SOk M w σ ρ → PlRep M w H d pl → G.W (.ref (M.ca c)) d σ H
theorem XCS.xc {M : Mx} {G : Gx} {w0 w : Wd} {H0 H : Hp} {σ : St} {ρ : Env} (x : XCS M G w0 H0) (e : Ext w0 H0 w H) (s : SOk M w σ ρ) : XC M G w H σ ρ := fun c pl d w' H' p e' k r => x c pl d σ w' H' ρ p (e.trans e') k (s.ext e') r
theorem XCS.up {M : Mx} {G : Gx} {w0 w1 : Wd} {H0 H1 : Hp} (x : XCS M G w0 H0) (a : Ext w0 H0 w1 H1) : XCS M G w1 H1 := fun c pl d σ w H ρ p e k s r => x c pl d σ w H ρ p (a.trans e) k s r
def SV (M : Mx) (G : Gx) (t : TS) (ρ : Env) (h : Hc) (P : Out → Prop) : Prop := ∀ w0 H0 σ w H (Dn : Ends), w.h = h → Ext w0 H0 w H → WOk M w H → SOk M w σ ρ → XCS M G w0 H0 → (∀ o, P o → OutOk M w0 H0 Dn o) → t Dn σ H
def SX (X : Cx) (M : Mx) (G : Gx) (st : Stmt) (ρ : Env) (h : Hc) (P : Out → Prop) : Prop := SV M G (rdS X st) ρ h P
def BX (X : Cx) (M : Mx) (G : Gx) (sts : List Stmt) (ρ : Env) (h : Hc) (P : Out → Prop) : Prop := SV M G (rdB X sts) ρ h P
/-- a target takes the data x; T: the slots that it stores -/
def Less (T : List Nat) (σ σ' : St) : Prop := σ'.length = σ.length ∧ ∀ j, j ∉ T → σ'[j]? = σ[j]?
def GX (X : Cx) (M : Mx) (T : List Nat) (tg : Expr) (x : D) (ρ : Env) (P : Env → Prop) : Prop := ∀ v σ w H (Q : St → Hp → Prop), WOk M w H → SOk M w σ ρ → Rep M w.F w.m v x → (∀ σ' ρ', P ρ' → SOk M w σ' ρ' → Less T σ σ' → Q σ' H) → rdG X tg v σ H Q

/-! ### where one stands -/
structure Bw (X : Cx) (M : Mx) (N : List Str) (sc : Scope) : Prop where
  hN : X.N = N
  nd : N.Nodup
  hsc : X.env.scope = sc
  hP : X.prog = M.P
  hw : X.w = M.w
  hK : X.K = M.K
  hmg : X.mg = M.mg
  hbase : X.base = M.base
structure Bx (X : Cx) (M : Mx) (N : List Str) (sc : Scope) (k : Nat) (W : WX) : Prop extends Bw X M N sc where
  calm : X.calm = true
  own : PassesOwn (model X.prog X.w) X.A X.env X.xe
  room : Room k X.A
  tk : Takes X W

section
variable {X : Cx} {M : Mx} {N : List Str} {sc : Scope} {k : Nat} {W : WX} {G : Gx} {ρ : Env} {hc : Hc} {P : D → Hc → Prop} {PF : Bool → D → Hc → Prop} {S : Out → Prop} {e : Expr} {x : Str} {pos : Pos}
theorem SX.of {st : Stmt} {t : TS} (h : PS X st t) (k : SV M G t ρ hc S) : SX X M G st ρ hc S := fun w0 H0 σ w H D eh ex wk sk xc q pins s' I => h.run pins s' σ H D I (k w0 H0 σ w H D eh ex wk sk xc q)
theorem BX.of {st : List Stmt} {t : TS} (h : PSs X st t) (k : SV M G t ρ hc S) : BX X M G st ρ hc S := fun w0 H0 σ w H D eh ex wk sk xc q pins s' I => h.run pins s' σ H D I (k w0 H0 σ w H D eh ex wk sk xc q)
theorem SX.mono {st : Stmt} {S' : Out → Prop} (h : SX X M G st ρ hc S) (k : ∀ o, S o → S' o) : SX X M G st ρ hc S' := fun w0 H0 σ w H D eh ex wk sk xc q => h w0 H0 σ w H D eh ex wk sk xc fun o p => q o (k o p)
theorem BX.mono {st : List Stmt} {S' : Out → Prop} (h : BX X M G st ρ hc S) (k : ∀ o, S o → S' o) : BX X M G st ρ hc S' := fun w0 H0 σ w H D eh ex wk sk xc q => h w0 H0 σ w H D eh ex wk sk xc fun o p => q o (k o p)
theorem Bw.gl (hb : Bw X M N sc) (hg : sc.names.lookup x = some .globalImplicit) : Gl X x := by unfold Gl; show X.env.scope.names.lookup x = _; rw [hb.hsc]; exact hg
/-! ### names, constants -/
theorem ex_var {d : D} (i : Nat) (hb : Bw X M N sc) (hd : ρ[i]? = some (some d)) (h : P d hc) (hN : N[i]? = some x) (hv : Vis sc x) (h1 : (x == ("__debug__" : Str)) = false) (h2 : (x == ("__classdict__" : Str)) = false) : EX X M G (.Name x pos) ρ hc P :=
  .of (pe_var (i := i) (by rw [hb.hN]; exact hN) (by rw [hb.hsc]; exact hv) h1 h2) fun σ w H Q eh wk sk xc q => by
    obtain ⟨v, hv, r⟩ := sk.sl i d hd
    exact ⟨v, hv, q d v w H (by rw [eh]; exact h) Ext.refl wk r⟩
/-- the cell that a name holds is taken: a new thing -/
theorem fx_take {d : D} {j : Nat} (i : Nat) (hb : Bw X M N sc) (hd : ρ[i]? = some (some (.ref j))) (hj : hc[j]? = some (some d)) (bd : boxd d = true) (h : PF true d (hc.set j none)) (hN : N[i]? = some x) (hv : Vis sc x) (h1 : (x == ("__debug__" : Str)) = false) (h2 : (x == ("__classdict__" : Str)) = false) : FX X M G (.Name x pos) ρ hc PF :=
  .of (pe_var (i := i) (by rw [hb.hN]; exact hN) (by rw [hb.hsc]; exact hv) h1 h2) fun σ w H Q eh wk sk xc q => by
    obtain ⟨v, hv, r⟩ := sk.sl i _ hd
    obtain ⟨a, ha, rfl⟩ := r.ref_inv
    rw [← eh] at hj
    obtain ⟨a', u, m1, fa, hp, c⟩ := wk.al j d hj
    rw [ha] at m1; cases m1
    obtain ⟨e1, k1⟩ := ext_dead wk hj
    exact ⟨_, hv, q true d _ (w.put j none) H (by show PF true d (w.h.set j none); rw [eh]; exact h) e1 k1 ⟨bd, a, u, rfl, hp, fa, dead_live wk hj ha, .inr ⟨j, ⟨d, hj⟩, ha⟩, c⟩⟩
theorem ev_c {d : D} {v : V} (h : P d hc) (r : ∀ F m, Rep M F m v d) : EV M G (tC v) ρ hc P := fun σ w H Q eh wk sk xc q => q d v w H (by rw [eh]; exact h) Ext.refl wk (r _ _)
theorem ex_int {i : Int} {j : Nat} (h : P (.int i) hc) : EX X M G (.Constant (.int i) j pos) ρ hc P := .of pe_int (ev_c h fun _ _ => .int i)
theorem ex_bl {i : Bool} {j : Nat} (h : P (.bl i) hc) : EX X M G (.Constant (.bool i) j pos) ρ hc P := .of pe_bl (ev_c h fun _ _ => .bl i)
theorem ex_str {i : Tx} {j : Nat} (h : P (.str i) hc) : EX X M G (.Constant (.str (ts i)) j pos) ρ hc P := .of pe_str (ev_c h fun _ _ => .str i)
theorem ex_non {j : Nat} (h : P .non hc) : EX X M G (.Constant .none j pos) ρ hc P := .of pe_non (ev_c h fun _ _ => .non)
/-- a module's name: a text, a class, a table -/
theorem ex_gl {d : D} {v : V} {u : Value} (hb : Bw X M N sc) (hm : M.mg x = some u) (r : RelV v u) (rd : ∀ F m, Rep M F m v d) (h : P d hc) (hg : sc.names.lookup x = some .globalImplicit) (h1 : (x == ("__debug__" : Str)) = false) : EX X M G (.Name x pos) ρ hc P :=
  .of (pe_glob (hb.gl hg) (by rw [hb.hmg]; exact hm) r h1) (ev_c h rd)
/-- a built-in class as a value -/
theorem ex_ty {n : Nat} (hb : Bw X M N sc) (hm : M.mg x = none) (hv : bootBuiltins x = some (.type (tyS n))) (h : P (.ty n) hc) (hg : sc.names.lookup x = some .globalImplicit) (hn : x ≠ "__name__") (h1 : (x == ("__debug__" : Str)) = false) : EX X M G (.Name x pos) ρ hc P :=
  .of (pe_bltn (v := .ty (tyS n)) (hb.gl hg) (by rw [hb.hmg]; exact hm) hv rfl hn h1) (ev_c h fun _ _ => .ty n)

/-! ### blocks -/
def seqO (k : Env → Hc → Prop) (S : Out → Prop) : Out → Prop
  | .nx ρ h => k ρ h
  | o => S o
theorem bx_nil (h : S (.nx ρ hc)) : BX X M G [] ρ hc S := .of pss_nil fun w0 H0 σ w H D eh ex wk sk xc q => q _ h σ w H eh ex wk sk
theorem bx_cons {st : Stmt} {rest : List Stmt} (h : SX X M G st ρ hc (seqO (fun ρ' h' => BX X M G rest ρ' h' S) S)) : BX X M G (st :: rest) ρ hc S :=
  .of (pss_cons ps_rd pb_rd) fun w0 H0 σ w H D eh ex wk sk xc q => by
    refine h w0 H0 σ w H _ eh ex wk sk xc fun o p => ?_
    cases o with
    | nx ρ' h' => exact fun σ' w' H' eh' ex' wk' sk' => p w0 H0 σ' w' H' D eh' ex' wk' sk' xc q
    | rt f d h' => exact q _ p
    | bk ρ' h' => exact q _ p
    | ct ρ' h' => exact q _ p
    | xx c pl ρ' h' => exact True.intro
theorem bx_one {st : Stmt} (h : SX X M G st ρ hc S) : BX X M G [st] ρ hc S := .of (pss_one ps_rd) h
/-! ### small statements -/
theorem sx_pass (h : S (.nx ρ hc)) : SX X M G (.Pass pos) ρ hc S := .of ps_pass fun w0 H0 σ w H D eh ex wk sk xc q => q _ h σ w H eh ex wk sk
theorem sx_break (h : S (.bk ρ hc)) : SX X M G (.Break pos) ρ hc S := .of ps_break fun w0 H0 σ w H D eh ex wk sk xc q => q _ h σ w H eh ex wk sk
theorem sx_ret (h : FX X M G e ρ hc fun f d h' => S (.rt f d h')) : SX X M G (.Return (some e) pos) ρ hc S := .of (ps_ret pe_rd) fun w0 H0 σ w H D eh ex wk sk xc q =>
  h σ w H _ eh wk sk (xc.xc ex sk) fun f d v w1 H1 p e1 k1 r => q _ p v w1 H1 rfl (ex.trans e1) k1 (r.back ex)
theorem sx_retN (h : S (.rt false .non hc)) : SX X M G (.Return none pos) ρ hc S := .of ps_retN fun w0 H0 σ w H D eh ex wk sk xc q => q _ h .non w H eh ex wk .non
theorem sx_expr (h : EX X M G e ρ hc fun _ h' => S (.nx ρ h')) (hs : swapsWith e none pos.line X.env = pure false) : SX X M G (.Expr e pos) ρ hc S := .of (ps_expr pe_rd hs) fun w0 H0 σ w H D eh ex wk sk xc q =>
  h σ w H _ eh wk sk (xc.xc ex sk) fun d v w1 H1 p e1 k1 r => q _ p σ w1 H1 rfl (ex.trans e1) k1 (sk.ext e1)
/-- a name of the frame that may be stored: a local one, or a cell of the def's own -/
def Sto (X : Cx) (sc : Scope) (x : Str) : Prop := sc.names.lookup x = some .local ∨ (sc.names.lookup x = some .cell ∧ X.fn x = true)
theorem loc_hf (hb : Bw X M N sc) (hl : Sto X sc x) : L2.Loc X.env.scope x ∧ (X.fn x = true ∨ X.env.scope.names.lookup x = some .local) := by
  unfold L2.Loc
  rw [hb.hsc]
  rcases hl with h | h
  · exact ⟨.inl h, .inr h⟩
  · exact ⟨.inr h.1, .inl h.2⟩
theorem sx_set (i : Nat) {pos' : Pos} (hb : Bw X M N sc) (h : EX X M G e ρ hc fun d h' => S (.nx (ρ.set i (some d)) h')) (hN : N[i]? = some x) (hl : Sto X sc x)
    (hs : swapsWith e (some (.Name x pos')) pos.line X.env = pure false) : SX X M G (.Assign [.Name x pos'] e pos) ρ hc S :=
  .of (ps_set (i := i) (by rw [hb.hN]; exact hb.nd) (by rw [hb.hN]; exact hN) (loc_hf hb hl).1 pe_rd hs (loc_hf hb hl).2) fun w0 H0 σ w H D eh ex wk sk xc q =>
    h σ w H _ eh wk sk (xc.xc ex sk) fun d v w1 H1 p e1 k1 r => q _ p _ w1 H1 rfl (ex.trans e1) k1 ((sk.ext e1).set r)
/-- the cell in slot i is frozen ahead of a statement -/
theorem sx_fz {st : Stmt} {d : D} (i : Nat) {j : Nat} (hi : ρ[i]? = some (some (.ref j))) (hj : hc[j]? = some (some d)) (bd : boxd d = true) (h : SX X M G st (ρ.set i (some d)) (hc.set j none) S) : SX X M G st ρ hc S := fun w0 H0 σ w H D eh ex wk sk xc q => by
  rw [← eh] at hj
  obtain ⟨a, u, ha, fa, hp, c⟩ := wk.al j d hj
  obtain ⟨e1, k1⟩ := ext_dead wk hj
  obtain ⟨e2, k2⟩ := ext_fz (w := w.put j none) k1 hp fa (dead_live wk hj ha) (.inr (.inr ⟨j, ⟨d, hj⟩, ha⟩)) e1
  refine h w0 H0 σ _ H D (by show w.h.set j none = _; rw [eh]) (ex.trans e2) k2 ((sk.ext e2).reset (fun v hv => ?_) ⟨_, hi⟩) xc q
  obtain ⟨v', hv', r⟩ := sk.sl i _ hi
  rw [hv] at hv'; cases hv'
  obtain ⟨a', ha', rfl⟩ := r.ref_inv
  rw [ha] at ha'; cases ha'
  exact rep_box bd upd_same (c.mono (sub_upd fa) fun _ _ z => z)
theorem sx_if {c : Expr} {a b : List Stmt} (h : TX X M G c ρ hc fun v h' => (v = true → BX X M G a ρ h' S) ∧ (v = false → BX X M G b ρ h' S)) : SX X M G (.If c a b pos) ρ hc S :=
  .of (ps_if pt_rd pb_rd pb_rd) fun w0 H0 σ w H D eh ex wk sk xc q =>
    h σ w H _ eh wk sk (xc.xc ex sk) fun v w1 H1 p e1 k1 => by
      cases v with
      | true => exact p.1 rfl w0 H0 σ w1 H1 D rfl (ex.trans e1) k1 (sk.ext e1) xc q
      | false => exact p.2 rfl w0 H0 σ w1 H1 D rfl (ex.trans e1) k1 (sk.ext e1) xc q
/-! ### targets -/
theorem Less.refl {T : List Nat} {σ : St} : Less T σ σ := ⟨rfl, fun _ _ => rfl⟩
theorem Less.trans {T : List Nat} {σ σ1 σ2 : St} (a : Less T σ σ1) (b : Less T σ1 σ2) : Less T σ σ2 := ⟨b.1.trans a.1, fun j h => (b.2 j h).trans (a.2 j h)⟩
theorem gx_name {T : List Nat} {d : D} {S' : Env → Prop} (i : Nat) (hb : Bw X M N sc) (h : S' (ρ.set i (some d))) (hT : i ∈ T) (hN : N[i]? = some x) (hl : Sto X sc x) : GX X M T (.Name x pos) d ρ S' :=
  fun v σ w H Q wk sk r q pins s' u I ru => (pg_name (i := i) (by rw [hb.hN]; exact hb.nd) (by rw [hb.hN]; exact hN) (loc_hf hb hl).1 (loc_hf hb hl).2).run pins s' σ H v u Q I ru (q _ _ h (sk.set r) ⟨by simp, fun j hj => List.getElem?_set_ne (fun (z : i = j) => hj (by rw [← z]; exact hT))⟩)
def rdGs (X : Cx) (ts : List Expr) : TGs := fun vs σ H Q => ∀ pins s us, Inv X pins σ H s → Vals vs us → wpAny (model X.prog X.w) X.A (assignInOrder ((assignEach ts X.env).map (·.2)) us) (fun _ s' => ∃ σ' H', Inv X pins σ' H' s' ∧ Q σ' H') X.xe s
theorem pgs_rd {ts : List Expr} : PGs X ts (rdGs X ts) := ⟨fun pins s σ H vs us Q I r h => h pins s us I r⟩
def GS (X : Cx) (M : Mx) (T : List Nat) (ts : List Expr) (xs : List D) (ρ : Env) (P : Env → Prop) : Prop := ∀ vs σ w H (Q : St → Hp → Prop), WOk M w H → SOk M w σ ρ → RepL M w.F w.m vs xs → (∀ σ' ρ', P ρ' → SOk M w σ' ρ' → Less T σ σ' → Q σ' H) → rdGs X ts vs σ H Q
theorem gs_nil {T : List Nat} {S' : Env → Prop} (h : S' ρ) : GS X M T [] [] ρ S' := fun vs σ w H Q wk sk r q pins s us I rv => by
  have e : vs = [] := r.nil_inv
  subst e
  exact pgs_nil.run pins s σ H [] us Q I rv ⟨rfl, q σ ρ h sk Less.refl⟩
theorem gs_cons {T : List Nat} {S' : Env → Prop} {t : Expr} {ts : List Expr} {d : D} {ds : List D} (h : GX X M T t d ρ fun ρ' => GS X M T ts ds ρ' S') (hs : (assignEach (t :: ts) X.env).map (·.2) = assign t X.env :: (assignEach ts X.env).map (·.2)) : GS X M T (t :: ts) (d :: ds) ρ S' :=
  fun vs σ w H Q wk sk r q pins s us I rv => by
    obtain ⟨v, vr, rfl, r1, r2⟩ := r.cons_inv
    refine (pgs_cons pg_rd pgs_rd hs).run pins s σ H _ us Q I rv ⟨v, vr, rfl, ?_⟩
    exact h v σ w H _ wk sk r1 fun σ1 ρ1 p1 sk1 l1 => p1 vr σ1 w H _ wk sk1 r2 fun σ2 ρ2 p2 sk2 l2 => q σ2 ρ2 p2 sk2 (l1.trans l2)
/-- (a, b, ..) takes a tuple -/
theorem gx_tup {T : List Nat} {S' : Env → Prop} {ts : List Expr} {n : Nat} {ds : List D} (hb : Bx X M N sc k W) (hl : ds.length = ts.length) (h : GS X M T ts ds ρ S')
    (hn : (assignEach ts X.env).length = ts.length) (hst : (assignEach ts X.env).findIdx? (·.1) = none) : GX X M T (.Tuple ts n pos) (.tup ds) ρ S' := fun v σ w H Q wk sk r q pins s u I ru => by
  obtain ⟨a, vs, rfl, ha, rl⟩ := r.tup_inv
  refine (pg_tup hb.calm pgs_rd hn hst).run pins s σ H _ u Q I ru ⟨a, vs, rfl, .inl (wk.le a _ ha).1, by rw [rl.1, hl], ?_⟩
  exact h vs σ w H Q wk sk rl q
/-! ### loops -/
structure ItOk (M : Mx) (J : It) (w : Wd) (ds : List D) : Prop where
  go : ∀ i H, Le w.F H → i < ds.length → J.go i H
  stop : ∀ H, Le w.F H → J.stop ds.length H
  yld : ∀ (i : Nat) w1 H x H' d, Sub w.F w1.F → Pre w.m w1.m → WOk M w1 H → J.yld i H x H' → ds[i]? = some d → ∃ w1', w1'.h = w1.h ∧ Ext w1 H w1' H' ∧ WOk M w1' H' ∧ Rep M w1'.F w1'.m x d
def IV (M : Mx) (G : Gx) (t : TI) (ρ : Env) (h : Hc) (P : List D → Hc → Prop) : Prop := ∀ σ w H (R : It → Hp → Prop), w.h = h → WOk M w H → SOk M w σ ρ → XC M G w H σ ρ → (∀ ds J w1 H1, P ds w1.h → Ext w H w1 H1 → WOk M w1 H1 → ItOk M J w1 ds → R J H1) → t σ H R
def IX (X : Cx) (M : Mx) (G : Gx) (tg iter : Expr) (ρ : Env) (h : Hc) (P : List D → Hc → Prop) : Prop := ∃ wi, PI X tg iter wi ∧ IV M G wi ρ h P
def loopO (I : Env → Hc → Prop) (S : Out → Prop) : Out → Prop
  | .nx ρ h => I ρ h
  | .ct ρ h => I ρ h
  | .bk ρ h => S (.nx ρ h)
  | .rt f d h => S (.rt f d h)
  | .xx c pl ρ h => S (.xx c pl ρ h)
theorem sx_for {T : List Nat} {tg iter : Expr} {body : List Stmt} (I : List D → Nat → Env → Hc → Prop) (hb : Bx X M N sc k W)
    (h : IX X M G tg iter ρ hc fun ds h0 => I ds 0 ρ h0 ∧ (∀ (i : Nat) d ρ' h', ds[i]? = some d → I ds i ρ' h' → GX X M T tg d ρ' fun ρ2 => BX X M G body ρ2 h' (loopO (I ds (i + 1)) S)) ∧ ∀ ρ' h', I ds ds.length ρ' h' → S (.nx ρ' h'))
    (hs : ∀ x, foldedSetIterable iter X.env x = pure x) : SX X M G (.For tg iter body [] pos) ρ hc S := by
  obtain ⟨wi, hi, iv⟩ := h
  refine .of (ps_for hb.own hb.calm hi pg_rd pb_rd hs) fun w0 H0 σ w H D eh ex wk sk xc q => ?_
  refine iv σ w H _ eh wk sk (xc.xc ex sk) fun ds J w1 H1 p e1 k1 it => ?_
  obtain ⟨p0, pt, pe⟩ := p
  have ex1 := ex.trans e1
  refine ⟨fun i m σ' H' => m = ds.length - i ∧ i ≤ ds.length ∧ ∃ w' ρ', I ds i ρ' w'.h ∧ Ext w1 H1 w' H' ∧ WOk M w' H' ∧ SOk M w' σ' ρ', ⟨_, rfl, Nat.zero_le _, w1, ρ, p0, Ext.refl, k1, sk.ext e1⟩, ?_⟩
  rintro i m σ' H' ⟨rfl, hi', w', ρ', pi, ss, kk, sl⟩
  have le1 : Le w1.F H' := fun a o z => kk.le a o (ss.ff a o z)
  by_cases hlt : i < ds.length
  · refine .inr ⟨it.go i H' le1 hlt, fun σ2 H2 => ∃ w2 ρ2, I ds (i + 1) ρ2 w2.h ∧ Ext w1 H1 w2 H2 ∧ WOk M w2 H2 ∧ SOk M w2 σ2 ρ2, fun σ2 H2 ⟨w2, ρ2, a⟩ => ⟨_, by omega, rfl, hlt, w2, ρ2, a⟩, fun x H2 y => ?_⟩
    have hd : ds[i]? = some ds[i] := by simp [hlt]
    obtain ⟨w2, eh2, e2, k2, r2⟩ := it.yld i w' H' x H2 _ ss.ff ss.mm kk y hd
    refine pt i _ ρ' w'.h hd pi x σ' w2 H2 _ k2 (sl.ext e2) r2 fun σ3 ρ3 b3 sk3 l3 => ?_
    refine b3 w1 H1 σ3 w2 H2 _ eh2 (ss.trans e2) k2 sk3 (xc.up ex1) fun o po => ?_
    cases o with
    | nx ρ4 h4 => exact fun σ4 w4 H4 eh4 e4 k4 s4 => ⟨w4, ρ4, by rw [eh4]; exact po, e4, k4, s4⟩
    | ct ρ4 h4 => exact fun σ4 w4 H4 eh4 e4 k4 s4 => ⟨w4, ρ4, by rw [eh4]; exact po, e4, k4, s4⟩
    | bk ρ4 h4 => exact fun σ4 w4 H4 eh4 e4 k4 s4 => q _ po σ4 w4 H4 eh4 (ex1.trans e4) k4 s4
    | rt f d h4 => exact fun v w4 H4 eh4 e4 k4 r4 => q _ po v w4 H4 eh4 (ex1.trans e4) k4 (r4.back ex1)
    | xx _ _ _ _ => exact True.intro
  · have e : i = ds.length := by omega
    subst e
    exact .inl ⟨it.stop H' le1, q _ (pe ρ' w'.h pi) σ' w' H' rfl (ex1.trans ss) kk sl⟩
/-- a while: I by a measure -/
theorem sx_while {c : Expr} {body : List Stmt} (I : Nat → Env → Hc → Prop) (hb : Bx X M N sc k W) (m0 : Nat) (h0 : I m0 ρ hc)
    (h : ∀ m ρ' h', I m ρ' h' → TX X M G c ρ' h' fun v h2 => (v = true → BX X M G body ρ' h2 (loopO (fun ρ2 h3 => ∃ m', m' < m ∧ I m' ρ2 h3) S)) ∧ (v = false → S (.nx ρ' h2))) : SX X M G (.While c body [] pos) ρ hc S := by
  refine .of (ps_while hb.own pt_rd pb_rd) fun w0 H0 σ w H D eh ex wk sk xc q => ?_
  refine ⟨fun m σ' H' => ∃ w' ρ', I m ρ' w'.h ∧ Ext w0 H0 w' H' ∧ WOk M w' H' ∧ SOk M w' σ' ρ', ⟨m0, w, ρ, by rw [eh]; exact h0, ex, wk, sk⟩, ?_⟩
  rintro m σ' H' ⟨w', ρ', pi, ss, kk, sl⟩
  refine h m ρ' w'.h pi σ' w' H' _ rfl kk sl (xc.xc ss sl) fun v w1 H1 p e1 k1 => ?_
  cases v with
  | false => exact q _ (p.2 rfl) σ' w1 H1 rfl (ss.trans e1) k1 (sl.ext e1)
  | true =>
    refine ⟨fun σ2 H2 => ∃ w2 ρ2, (∃ m', m' < m ∧ I m' ρ2 w2.h) ∧ Ext w0 H0 w2 H2 ∧ WOk M w2 H2 ∧ SOk M w2 σ2 ρ2, fun σ2 H2 ⟨w2, ρ2, ⟨m', a, b⟩, c⟩ => ⟨m', a, w2, ρ2, b, c⟩, ?_⟩
    refine p.1 rfl w0 H0 σ' w1 H1 _ rfl (ss.trans e1) k1 (sl.ext e1) xc fun o po => ?_
    cases o with
    | nx ρ4 h4 => exact fun σ4 w4 H4 eh4 e4 k4 s4 => ⟨w4, ρ4, by rw [eh4]; exact po, e4, k4, s4⟩
    | ct ρ4 h4 => exact fun σ4 w4 H4 eh4 e4 k4 s4 => ⟨w4, ρ4, by rw [eh4]; exact po, e4, k4, s4⟩
    | bk ρ4 h4 => exact fun σ4 w4 H4 eh4 e4 k4 s4 => q _ po σ4 w4 H4 eh4 e4 k4 s4
    | rt f d h4 => exact fun v w4 H4 eh4 e4 k4 r4 => q _ po v w4 H4 eh4 e4 k4 r4
    | xx _ _ _ _ => exact True.intro
end
/-! ### a def's contract -/
/-- C ds h P PX: with the arguments ds and the cells h it hands back, or raises -/
abbrev Con := List D → Hc → (Bool → D → Hc → Prop) → (Nat → Pl → Hc → Prop) → Prop
def spC (M : Mx) (C : Con) : Sp := fun vs H Q E => ∃ w ds P PX, WOk M w H ∧ RepL M w.F w.m vs ds ∧ C ds w.h P PX ∧ (∀ f d v w1 H1, P f d w1.h → Ext w H w1 H1 → WOk M w1 H1 → RR M w H w1 H1 v f d → Q v H1) ∧ (∀ c pl dd w1 H1, PX c pl w1.h → Ext w H w1 H1 → WOk M w1 H1 → PlRep M w1 H1 dd pl → E (.ref (M.ca c)) dd H1)
def begin (N : List Str) (ds : List D) : Env := ds.map some ++ List.replicate (N.length - ds.length) none
theorem begin_ok {M : Mx} {w : Wd} {N : List Str} {vs : List V} {ds : List D} (r : RepL M w.F w.m vs ds) : SOk M w (L2.start N vs) (begin N ds) := by
  refine ⟨by simp [L2.start, begin, r.1], fun i d h => ?_⟩
  unfold begin at h
  by_cases hi : i < ds.length
  · rw [List.getElem?_append_left (by simpa using hi), List.getElem?_map] at h
    simp [hi] at h
    subst h
    obtain ⟨v, h1, h2⟩ := r.get (i := i) (v := ds[i]) (by simp [hi])
    refine ⟨v, ?_, h2⟩
    unfold L2.start
    rw [List.getElem?_append_left (by simpa using (List.getElem?_eq_some_iff.mp h1).1), List.getElem?_map, h1]
    rfl
  · rw [List.getElem?_append_right (by simpa using hi), List.getElem?_replicate] at h
    split at h <;> cases h
section
variable {M : Mx} {x qual : Str} {params : Arguments} {body : List Stmt} {scope : Scope} {dvs : List V} {kws : List (Str × V)} {f : Addr} {fd : FuncData} {N ps : List Str} {k : Nat}
theorem bx_of {A : Around} {cdv : Value} {outer : List PySem.Env} {s : Shared} {H : Hp} {E : XK} (S : FnScope N ps scope) (hr : Room k (A.deeper (envOfC qual scope s.heap.objs.size f cdv))) :
    Bx (cxOf (L2.CX M.P M.w) M.P M.w M.K M.mg M.base N qual scope f cdv A outer s H E) M N scope k (fun cls d _ H => E cls d H) where
  hN := rfl
  nd := S.nd
  hsc := rfl
  hP := rfl
  hw := rfl
  hK := rfl
  hmg := rfl
  hbase := rfl
  calm := rfl
  own := passes_of rfl
  room := hr
  tk := takes_of rfl rfl rfl rfl
/-- what a body must end in -/
def EndO (P : Bool → D → Hc → Prop) : Out → Prop
  | .nx _ h => P false .non h
  | .rt f d h => P f d h
  | .xx _ _ _ _ => True
  | _ => False
theorem def_ok {C : Con} (F : FunD M.K x qual params body scope dvs kws f fd) (S : FnScope N ps scope) (len : ∀ ds h P PX, C ds h P PX → ds.length = ps.length)
    (h : ∀ (X : Cx) (W : WX), Bx X M N scope k W → X.stack = X.env :: X.outer → X.env.frame = some X.env.locals → (∀ x, X.fn x = true) → ∀ ds hc P PX, C ds hc P PX → BX X M ⟨W, fun c pl _ h => PX c pl h⟩ body (begin N ds) hc (EndO P)) :
    FnOk M.P M.w M.K M.mg M.base (L2.CX M.P M.w) (k + 1) f fd ps (spC M C) := by
  refine F.ok S (fun vs H Q E hs => ?_) (fun cdv A outer s H vs Q E hr hs => ?_)
  · obtain ⟨w, ds, P, PX, wk, r, c, _⟩ := hs
    rw [r.1]
    exact len ds w.h P PX c
  · obtain ⟨w, ds, P, PX, wk, r, c, q, qx⟩ := hs
    refine ⟨_, pb_rd, ?_⟩
    refine h _ _ (bx_of S hr) rfl rfl (fun _ => rfl) ds w.h P PX c w H (L2.start N vs) w H _ rfl Ext.refl wk (begin_ok r) (fun c pl d σ w' H' ρ px e k s rp => qx c pl d w' H' px e k rp) fun o po => ?_
    cases o with
    | nx ρ h => exact fun σ w' H' eh e k s => q false .non .non w' H' (by rw [eh]; exact po) e k .non
    | rt f d h => exact fun v w' H' eh e k r => q f d v w' H' (by rw [eh]; exact po) e k r
    | bk ρ h => exact po.elim
    | ct ρ h => exact po.elim
    | xx _ _ _ _ => exact True.intro
end
end Yl

set_option maxRecDepth 100000
set_option maxHeartbeats 4000000
/-! Y3: operations on data. -/
namespace Yl
open PySem PySem.Spec PyProof.Rows L2
theorem lim_eq : lim = sizeLine := sizeLine_eq.symm
/-! ### texts -/
theorem txBeq_iff : ∀ a b : Tx, txBeq a b = decide (a = b)
  | [], [] => by simp [txBeq]
  | [], b :: y => by simp [txBeq]
  | a :: x, [] => by simp [txBeq]
  | a :: x, b :: y => by
    simp only [txBeq]
    rw [txBeq_iff x y]
    by_cases h : a = b
    · subst h
      by_cases h2 : x = y
      · subst h2; simp
      · simp [h2]
    · have : Nat.beq a b = false := by
        cases e : Nat.beq a b with
        | false => rfl
        | true => exact absurd (Nat.eq_of_beq_eq_true e) h
      simp [this, h]
theorem ts_inj {a b : Tx} (h : ts a = ts b) : a = b := by
  unfold ts at h
  injection h with h
  injection h with h
theorem ts_len (a : Tx) : (ts a).length = a.length := by simp [ts, Str.length]
theorem ts_list (a : Tx) : (ts a).cps.toList = a := by simp [ts]
theorem ts_of (s : Str) : ts s.cps.toList = s := by simp [ts]
theorem ts_app (a b : Tx) : ts a ++ ts b = ts (a ++ b) := by
  show Str.append (ts a) (ts b) = _
  simp [ts, Str.append]
theorem txLt_iff : ∀ a b : Tx, txLt a b = decide (a < b)
  | [], [] => by simp [txLt]
  | [], b :: y => by simp [txLt]
  | a :: x, [] => by simp [txLt]
  | a :: x, b :: y => by
    simp only [txLt]
    rw [txLt_iff x y]
    have hb : Nat.blt a b = decide (a < b) := by
      cases e : Nat.blt a b with
      | true => simp [Nat.blt_eq.mp e]
      | false =>
        have : ¬ a < b := fun h => by rw [Nat.blt_eq.mpr h] at e; cases e
        simp [this]
    rw [hb]
    rcases Nat.lt_trichotomy a b with h | h | h
    · simp [h, List.cons_lt_cons_iff]
    · subst h
      have : Nat.beq a a = true := Nat.beq_refl a
      simp [this, List.cons_lt_cons_iff]
    · have h1 : ¬ a < b := by omega
      have h2 : Nat.beq a b = false := by
        cases e : Nat.beq a b with
        | false => rfl
        | true => have := Nat.eq_of_beq_eq_true e; omega
      have h3 : ¬ a = b := by omega
      have h4 : ¬ (a :: x < b :: y) := by simp [List.cons_lt_cons_iff, h1, h3]
      simp [h1, h2, h4]
/-! ### data as the library's data -/
mutual
def toPy : D → PyData
  | .bl b => .bool b
  | .int i => .int i
  | .str x => .str (ts x)
  | .lst xs => .list (toPyL xs)
  | .tup xs => .tuple (toPyL xs)
  | .ktup xs => .tuple (toPyL xs)
  | _ => .none
def toPyL : List D → List PyData
  | [] => []
  | d :: ds => toPy d :: toPyL ds
end
theorem toPyL_map (ds : List D) : toPyL ds = ds.map toPy := by
  induction ds with
  | nil => rfl
  | cons d ds ih => simp [toPyL, ih]
theorem all_get {n : Nat} {ds : List D} (h : ds.all (depOk n) = true) {i : Nat} {d : D} (e : ds[i]? = some d) : depOk n d = true := List.all_eq_true.mp h d (List.mem_of_getElem? e)
section
variable {M : Mx} {F H : Hp} {m : List Addr}
theorem dpAll_of {vs : List V} {ds : List D} (l : vs.length = ds.length) (h : ∀ (i : Nat) v d, vs[i]? = some v → ds[i]? = some d → Dp M.K H v (toPy d)) : DpAll M.K H vs (toPyL ds) := by
  induction ds generalizing vs with
  | nil =>
    have := List.eq_nil_of_length_eq_zero (l.trans rfl)
    subst this
    exact .nil
  | cons d ds ih =>
    cases vs with
    | nil => cases l
    | cons v vs => exact .cons (h 0 v d rfl rfl) (ih (by simpa using l) fun i v' d' a b => h (i + 1) v' d' (by simpa using a) (by simpa using b))
theorem sqL_of (le : Le F H) {a : Addr} {vs : List V} (h : F a = some (.lst vs)) : SqL M.K H a vs := .inl (le a _ h).1
theorem sqT_of (le : Le F H) {a : Addr} {vs : List V} (h : F a = some (.tup vs)) : SqT M.K H a vs := .inl (le a _ h).1
theorem dp_of (le : Le F H) : ∀ (n : Nat) (d : D) (v : V), depOk n d = true → Rep M F m v d → Dp M.K H v (toPy d)
  | 0, _, _, h, _ => by simp [depOk] at h
  | n + 1, d, v, h, r => by
    cases r <;> first | (simp [depOk] at h; done) | skip
    · exact .non
    · exact .bl _
    · exact .int _
    · exact .str _
    · rename_i a vs ds hf l p
      exact .tup (sqT_of le hf) (dpAll_of l fun i v d e f => dp_of le n d v (all_get h f) (p i v d e f))
    · rename_i a vs ds hf l p
      exact .tup (SqT.k hf) (dpAll_of l fun i v d e f => dp_of le n d v (all_get h f) (p i v d e f))
    · rename_i a vs ds hf l p
      exact .lst (sqL_of le hf) (dpAll_of l fun i v d e f => dp_of le n d v (all_get h f) (p i v d e f))
end
theorem depthAll_le {n : Nat} : ∀ {ds : List D}, (∀ d ∈ ds, (toPy d).depth ≤ n) → PyData.depthAll (toPyL ds) ≤ n
  | [], _ => Nat.zero_le _
  | d :: ds, h => by
    show max _ _ ≤ n
    exact Nat.max_le.mpr ⟨h d (by simp), depthAll_le fun d' q => h d' (by simp [q])⟩
theorem depth_of : ∀ (n : Nat) (d : D), depOk n d = true → (toPy d).depth ≤ n
  | 0, _, h => by simp [depOk] at h
  | n + 1, d, h => by
    cases d <;> first | (simp [depOk] at h; done) | exact Nat.zero_le _ | skip
    all_goals
      show PyData.depthAll _ + 1 ≤ n + 1
      exact Nat.succ_le_succ (depthAll_le fun d q => depth_of n d (List.all_eq_true.mp h d q))
theorem lay0All {ds : List D} (h : ∀ d ∈ ds, (toPy d).canLay0 = true) : PyData.canLayAll0 (toPyL ds) = true := by
  induction ds with
  | nil => rfl
  | cons d ds ih =>
    show ((toPy d).canLay0 && PyData.canLayAll0 (toPyL ds)) = true
    rw [h d (by simp), ih fun d' q => h d' (by simp [q])]; rfl
theorem lay0_of : ∀ (n : Nat) (d : D), depOk n d = true → (toPy d).canLay0 = true
  | 0, _, h => by simp [depOk] at h
  | n + 1, d, h => by
    cases d <;> first | (simp [depOk] at h; done) | rfl | skip
    · rename_i x
      show PyData.strOk (ts x) = true
      unfold PyData.strOk ts
      simp only [depOk] at h
      rw [Array.all_eq_true']
      intro c hc
      have := List.all_eq_true.mp h c (by simpa using hc)
      simpa using Nat.blt_eq.mp this
    all_goals
      exact lay0All fun d q => lay0_of n d (List.all_eq_true.mp h d q)
theorem shaped_of {n : Nat} {d : D} (hn : n ≤ 64) (h : depOk n d = true) : SeqAt.shaped (toPy d) = true := by
  unfold SeqAt.shaped
  rw [lay0_of n d h, decide_eq_true (Nat.le_trans (depth_of n d h) hn)]; rfl
theorem eqvL_of {n : Nat} (ih : ∀ x y : D, depOk n x = true → depOk n y = true → eqv x y = PyData.eqv (toPy x) (toPy y)) : ∀ {xs ys : List D}, xs.all (depOk n) = true → ys.all (depOk n) = true → eqvL xs ys = PyData.eqvAll (toPyL xs) (toPyL ys)
  | [], [], _, _ => by simp [eqvL, toPyL, PyData.eqvAll]
  | [], y :: ys, _, _ => by simp [eqvL, toPyL, PyData.eqvAll]
  | x :: xs, [], _, _ => by simp [eqvL, toPyL, PyData.eqvAll]
  | x :: xs, y :: ys, hx, hy => by
    rw [List.all_cons, Bool.and_eq_true_iff] at hx hy
    simp only [eqvL, toPyL, PyData.eqvAll]
    rw [ih x y hx.1 hy.1, eqvL_of ih hx.2 hy.2]
theorem eqv_of : ∀ (n : Nat) (x y : D), depOk n x = true → depOk n y = true → eqv x y = PyData.eqv (toPy x) (toPy y)
  | 0, _, _, h, _ => by simp [depOk] at h
  | n + 1, x, y, hx, hy => by
    cases x <;> first | (simp [depOk] at hx; done) | skip
    all_goals cases y <;> first | (simp [depOk] at hy; done) | skip
    all_goals simp only [depOk] at hx hy
    all_goals simp only [eqv, toPy, PyData.eqv]
    all_goals first
      | rfl
      | exact eqvL_of (eqv_of n) hx hy
      | skip
    · rename_i a b
      rw [txBeq_iff]
      show _ = decide (ts a = ts b)
      by_cases h : a = b
      · subst h; simp
      · rw [decide_eq_false h, decide_eq_false fun q => h (ts_inj q)]
/-! ### what a value denotes, cells looked through -/
section
variable {M : Mx} {w : Wd} {H : Hp} {v : V} {d : D}
/-- v is the address of a thing of content d -/
def Ctn (M : Mx) (w : Wd) (H : Hp) (v : V) (d : D) : Prop := ∃ a u, v = .ref a ∧ RdT H a u ∧ Cont M w.F w.m d u
theorem cont_box {F : Hp} {m : List Addr} {u : HO} (c : Cont M F m d u) : boxd d = true ∨ d = .zz := by
  cases d <;> cases u <;> first | exact c.elim | exact .inl rfl | exact .inr rfl
theorem den (wk : WOk M w H) (r : Rep M w.F w.m v d) : (boxd (deref w.h d) = true ∧ Ctn M w H v (deref w.h d)) ∨ (boxd (deref w.h d) = false ∧ (deref w.h d = .zz ∨ (Rep M w.F w.m v (deref w.h d) ∧ deref w.h d = d))) := by
  by_cases bx : boxd d = true
  · have e : deref w.h d = d := by cases d <;> first | rfl | cases bx
    rw [e]
    obtain ⟨a, u, rfl, h, c⟩ := rep_unbox bx r
    exact .inl ⟨bx, a, u, rfl, wk.le a u h, c⟩
  · cases d with
    | ref j =>
      obtain ⟨a, ha, rfl⟩ := r.ref_inv
      cases h : w.h[j]? with
      | none => 
        have e : deref w.h (.ref j) = .zz := by simp [deref, h]
        rw [e]; exact .inr ⟨rfl, .inl rfl⟩
      | some o =>
        cases o with
        | none =>
          have e : deref w.h (.ref j) = .zz := by simp [deref, h]
          rw [e]; exact .inr ⟨rfl, .inl rfl⟩
        | some d' =>
          have e : deref w.h (.ref j) = d' := by simp [deref, h]
          rw [e]
          obtain ⟨a', u, h1, h2, h3, h4⟩ := wk.al j d' h
          rw [ha] at h1; cases h1
          rcases cont_box h4 with b | rfl
          · exact .inl ⟨b, a, u, rfl, .of h3, h4⟩
          · exact .inr ⟨rfl, .inl rfl⟩
    | _ => first | exact absurd rfl bx | exact .inr ⟨rfl, .inr ⟨r, rfl⟩⟩
theorem den_flat {d' : D} (wk : WOk M w H) (r : Rep M w.F w.m v d) (e : deref w.h d = d') (b : boxd d' = false) (z : d' ≠ .zz) : Rep M w.F w.m v d' := by
  subst e
  rcases den wk r with h | h
  · rw [b] at h; exact absurd h.1 Bool.false_ne_true
  · rcases h.2 with h | h
    · exact absurd h z
    · exact h.1
theorem den_box {d' : D} (wk : WOk M w H) (r : Rep M w.F w.m v d) (e : deref w.h d = d') (b : boxd d' = true) : Ctn M w H v d' := by
  subst e
  rcases den wk r with h | h
  · exact h.2
  · rw [b] at h; exact absurd h.1 (by simp)
theorem Ctn.lst {ds : List D} (c : Ctn M w H v (.lst ds)) : ∃ a vs, v = .ref a ∧ H a = some (.lst vs) ∧ RepL M w.F w.m vs ds := by
  obtain ⟨a, u, rfl, h, c⟩ := c
  cases u <;> first | exact c.elim | exact ⟨a, _, rfl, h.2 rfl, c⟩
theorem den_lst {ds : List D} (wk : WOk M w H) (r : Rep M w.F w.m v d) (e : deref w.h d = .lst ds) : ∃ a vs, v = .ref a ∧ H a = some (.lst vs) ∧ RepL M w.F w.m vs ds := (den_box wk r e rfl).lst
theorem den_tup {ds : List D} (wk : WOk M w H) (r : Rep M w.F w.m v d) (e : deref w.h d = .tup ds) : ∃ a vs, v = .ref a ∧ w.F a = some (.tup vs) ∧ H a = some (.tup vs) ∧ RepL M w.F w.m vs ds := by
  obtain ⟨a, vs, rfl, h, rl⟩ := (den_flat wk r e rfl (by simp)).tup_inv
  exact ⟨a, vs, rfl, h, (wk.le a _ h).2 rfl, rl⟩
theorem den_str {x : Tx} (wk : WOk M w H) (r : Rep M w.F w.m v d) (e : deref w.h d = .str x) : v = .str (ts x) := (den_flat wk r e rfl (by simp)).str_inv
theorem den_int {x : Int} (wk : WOk M w H) (r : Rep M w.F w.m v d) (e : deref w.h d = .int x) : v = .int x := (den_flat wk r e rfl (by simp)).int_inv
/-- a cell's content as frozen data, to be compared -/
theorem den_dp {n : Nat} (wk : WOk M w H) (r : Rep M w.F w.m v d) (h : depOk n (deref w.h d) = true) : Dp M.K H v (toPy (deref w.h d)) := by
  rcases den wk r with ⟨b, c⟩ | ⟨b, z | ⟨r', _⟩⟩
  · cases n with
    | zero => simp [depOk] at h
    | succ n =>
      generalize deref w.h d = e at h b c ⊢
      cases e <;> first | (exact absurd b Bool.false_ne_true) | (simp [depOk] at h; done) | skip
      rename_i ds
      obtain ⟨a, vs, rfl, ha, rl⟩ := Ctn.lst c
      exact .lst (.inl (.inl ha)) (dpAll_of rl.1 fun i v d e f => dp_of wk.le n d v (all_get h f) (rl.2 i v d e f))
  · rw [z] at h
    cases n <;> simp [depOk] at h
  · exact dp_of wk.le n _ _ h r'
end
/-! ### what an operation is followed by -/
/-- the cells stay -/
def Fin (M : Mx) (w : Wd) (H : Hp) (f : Bool) (d : D) (Q : VK) : Prop := ∀ v w1 H1, w1.h = w.h → Ext w H w1 H1 → WOk M w1 H1 → RR M w H w1 H1 v f d → Q v H1
section
variable {M : Mx} {w : Wd} {H : Hp} {d : D} {Q : VK}
theorem Fin.here {v : V} (k : Fin M w H false d Q) (wk : WOk M w H) (r : Rep M w.F w.m v d) : Q v H := k v w H rfl Ext.refl wk r
theorem Fin.box {p : Addr} {o : HO} (k : Fin M w H true d Q) (wk : WOk M w H) (b : boxd d = true) (hp : H p = none) (c : Cont M w.F w.m d o) : Q (.ref p) (upd H p o) := by
  obtain ⟨e, k1⟩ := ext_lay (o := o) wk hp
  have nl : ∀ i, ¬ Live w i p := fun i l => by
    obtain ⟨u, h, _⟩ := live_some wk l
    rw [hp] at h; cases h
  exact k _ w _ rfl e k1 ⟨b, p, o, rfl, upd_same, le_none wk.le hp, nl, .inl hp, c⟩
theorem Fin.tup {p : Addr} {vs : List V} {ds : List D} (k : Fin M w H false (.tup ds) Q) (wk : WOk M w H) (hp : H p = none) (r : RepL M w.F w.m vs ds) : Q (.ref p) (upd H p (.tup vs)) := by
  obtain ⟨e, k1⟩ := ext_lay (o := .tup vs) wk hp
  have fp := le_none wk.le hp
  have nl : ∀ i, ¬ Live w i p := fun i l => by
    obtain ⟨u, h, _⟩ := live_some wk l
    rw [hp] at h; cases h
  obtain ⟨e2, k2⟩ := ext_fz k1 upd_same fp nl (.inl hp) e
  have rr : RepL M (upd w.F p (.tup vs)) w.m vs ds := RepL.mono (sub_upd fp) (fun _ _ z => z) r
  exact k _ (w.fz p (.tup vs)) _ rfl e2 k2 (.tup upd_same rr.1 rr.2)
end
theorem opr_or {X : Cx} {f : Value → Value → Sem Value} {r r' : R2} (a : OpR X f r) (b : OpR X f r') : OpR X f (fun x y H Q => r x y H Q ∨ r' x y H Q) := fun pins s σ H x y v u Q I rx ry h => h.elim (a pins s σ H x y v u Q I rx ry) (b pins s σ H x y v u Q I rx ry)
/-! ### the operators' rules -/
abbrev rAddS : R2 := fun x y H Q => ∃ i j, x = .str i ∧ y = .str j ∧ i.length + j.length ≤ sizeLine ∧ Q (.str (i ++ j)) H
abbrev rLtS : R2 := fun x y H Q => ∃ i j, x = .str i ∧ y = .str j ∧ Q (.bl (decide (i.cps.toList < j.cps.toList))) H
abbrev rIsN' : R2 := fun x y H Q => y = .non ∧ Q (.bl (decide (x = .non))) H
abbrev rNotN' : R2 := fun x y H Q => y = .non ∧ Q (.bl (!decide (x = .non))) H
abbrev rSign : R2 := fun x y H Q => ∃ (c : Nat) (z : Str), x = .str ⟨#[c]⟩ ∧ y = .str z ∧ Q (.bl (decide (c ∈ z.cps.toList))) H
abbrev rNSign : R2 := fun x y H Q => ∃ (c : Nat) (z : Str), x = .str ⟨#[c]⟩ ∧ y = .str z ∧ Q (.bl (!decide (c ∈ z.cps.toList))) H
abbrev rInKd (K : PySem.W.Frag) (w : World) : R2 := fun x y H Q => ∃ (d : Addr) (es : Array DictEntry) (n : Nat) (z : Str) (r : Option Value), KDict K w d es n ∧ x = .str z ∧ y = .ref d ∧ PySem.W.nsIn K d z = some r ∧ Q (.bl r.isSome) H
abbrev rNinKd (K : PySem.W.Frag) (w : World) : R2 := fun x y H Q => ∃ (d : Addr) (es : Array DictEntry) (n : Nat) (z : Str) (r : Option Value), KDict K w d es n ∧ x = .str z ∧ y = .ref d ∧ PySem.W.nsIn K d z = some r ∧ Q (.bl (!r.isSome)) H
abbrev rDIn : R2 := fun x y H Q => ∃ a o, y = .ref a ∧ DGet H a x o ∧ Q (.bl o.isSome) H
abbrev rDNin : R2 := fun x y H Q => ∃ a o, y = .ref a ∧ DGet H a x o ∧ Q (.bl (!o.isSome)) H
abbrev rDIx : R2 := fun x y H Q => ∃ a v, x = .ref a ∧ DGet H a y (some v) ∧ Q v H
abbrev orR (r r' : R2) : R2 := fun x y H Q => r x y H Q ∨ r' x y H Q
abbrev rTupIn (K : PySem.W.Frag) (neg : Bool) : R2 := fun x y H Q => ∃ d ds, Dp K H x d ∧ Dp K H y (.tuple ds) ∧ SeqAt.shaped d = true ∧ SeqAt.shaped (.tuple ds) = true ∧ Q (.bl (if neg then !(ds.any fun z => PyData.eqv z d) else ds.any fun z => PyData.eqv z d)) H
def rO (K : PySem.W.Frag) (w : World) : O2 → R2
  | .add => orR (rI0 fun i j => .int (i + j)) (orR rAddS (orR rCat (rCatA K)))
  | .sub => rI0 fun i j => .int (i - j)
  | .mul => rI CMul fun i j => .int (i * j)
  | .fdiv => rI CDiv fun i j => .int (i / j)
  | .mod => rI (fun _ j => 0 < j) fun i j => .int (i % j)
  | .lt => orR (rI0 fun i j => .bl (decide (i < j))) rLtS
  | .le => rI0 fun i j => .bl (decide (i ≤ j))
  | .gt => rI0 fun i j => .bl (decide (j < i))
  | .ge => rI0 fun i j => .bl (decide (j ≤ i))
  | .eq => rEqD K
  | .ne => rNeD K
  | .isN => rIsN'
  | .notN => rNotN'
  | .isin => orR (rInD K) (orR rSign (orR (rInKd K w) (orR (rIn K false) rDIn)))
  | .nin => orR (rNotInD K) (orR rNSign (orR (rNinKd K w) (orR (rIn K true) rDNin)))
  | .ix => orR (rIx K) (orR (rIxD K w) rDIx)
  | .pow => rI CPow fun i j => .int (i ^ j.toNat)
def opOf : O2 → Value → Value → Sem Value
  | .add => binaryOp .Add
  | .sub => binaryOp .Sub
  | .mul => binaryOp .Mult
  | .fdiv => binaryOp .FloorDiv
  | .mod => binaryOp .Mod
  | .lt => compareOp .Lt
  | .le => compareOp .LtE
  | .gt => compareOp .Gt
  | .ge => compareOp .GtE
  | .eq => compareOp .Eq
  | .ne => compareOp .NotEq
  | .isN => compareOp .Is
  | .notN => compareOp .IsNot
  | .isin => compareOp .In
  | .nin => compareOp .NotIn
  | .ix => getItem
  | .pow => binaryOp .Pow
theorem opr_kd {X : Cx} : OpR X (compareOp .In) (rInKd X.K X.w) := fun pins s σ H x y v u Q I rx ry h => by
  obtain ⟨d, es, n, z, r, kd, h⟩ := h
  exact op_in_kd kd pins s σ H x y v u Q I rx ry ⟨z, r, h⟩
theorem opr_nkd {X : Cx} : OpR X (compareOp .NotIn) (rNinKd X.K X.w) := fun pins s σ H x y v u Q I rx ry h => by
  obtain ⟨d, es, n, z, r, kd, h⟩ := h
  exact op_notIn_kd kd pins s σ H x y v u Q I rx ry ⟨z, r, h⟩
theorem opr_din {X : Cx} (hu : X.A.units + 1 < cLine) : OpR X (compareOp .In) rDIn := fun pins s σ H x y v u Q I rx ry h => by
  obtain ⟨a, o, rfl, g, q⟩ := h
  obtain rfl : u = Value.ref a := ry
  exact d_in hu I g rx fun s' I' => ⟨.bl o.isSome, H, I', rfl, q⟩
theorem opr_dnin {X : Cx} (hu : X.A.units + 1 < cLine) : OpR X (compareOp .NotIn) rDNin := fun pins s σ H x y v u Q I rx ry h => by
  obtain ⟨a, o, rfl, g, q⟩ := h
  obtain rfl : u = Value.ref a := ry
  exact d_notIn hu I g rx fun s' I' => ⟨.bl (!o.isSome), H, I', rfl, q⟩
theorem ixr_d {X : Cx} (hu : X.A.units + 1 < cLine) : IxR X rDIx := fun value slice pins s σ H x y v u Q I rx ry h hs => by
  obtain ⟨a, z, rfl, g, q⟩ := h
  obtain rfl : v = Value.ref a := rx
  exact tail_any (dict_typeIs I g) PySem.F.slot_dict_getitem.lookup (d_getItem hu I g ry fun w' s' I' rw' => ⟨z, H, I', rw', q⟩) hs
theorem opr_of {X : Cx} {k : Nat} (hr : Room k X.A) : ∀ o : O2, o ≠ .ix → OpR X (opOf o) (rO X.K X.w o)
  | .add, _ => opr_or op_add (opr_or op_add_str (opr_or op_cat op_catA))
  | .sub, _ => op_sub
  | .mul, _ => op_mul
  | .fdiv, _ => op_fdiv
  | .mod, _ => op_mod
  | .lt, _ => opr_or op_lt op_lt_str
  | .le, _ => op_le
  | .gt, _ => op_gt
  | .ge, _ => op_ge
  | .eq, _ => op_eqD hr.units
  | .ne, _ => op_neD hr.units
  | .isN, _ => op_isN
  | .notN, _ => op_notN
  | .isin, _ => opr_or (op_inD (by have := hr.un; omega)) (opr_or op_in_sign (opr_or opr_kd (opr_or op_in_seq (opr_din (by have := hr.un; omega)))))
  | .nin, _ => opr_or (op_notInD (by have := hr.un; omega)) (opr_or op_notIn_sign (opr_or opr_nkd (opr_or op_notIn_seq (opr_dnin (by have := hr.un; omega)))))
  | .ix, h => absurd rfl h
  | .pow, _ => op_pow
theorem ixr_of {X : Cx} {k : Nat} (hr : Room k X.A) : IxR X (rO X.K X.w .ix) := ix_seq.or (ix_kdict.or (ixr_d (by have := hr.un; omega)))
end Yl

set_option maxRecDepth 100000
set_option maxHeartbeats 4000000
/-! Yz: zip of two texts. -/
namespace Yl
open PySem PySem.Spec PyProof.Rows L2
def Itzs (x y : Str) : It :=
  ⟨fun i _ => i < x.cps.size ∧ i < y.cps.size,
    fun i H v H' => ∃ T c d, v = .ref T ∧ H T = none ∧ H' = upd H T (.tup [.str ⟨#[c]⟩, .str ⟨#[d]⟩]) ∧ x.cps[i]? = some c ∧ y.cps[i]? = some d,
    fun i _ => i ≤ x.cps.size ∧ i ≤ y.cps.size ∧ (i = x.cps.size ∨ i = y.cps.size)⟩
theorem turn_zips {P : Program} {w : World} {K : PySem.W.Frag} {elts : List Expr} {kk : Nat} {tpos : Pos} {x y : Str} {t1 t2 : Tok} {z TI TO i1 i2 : Addr} (D : ZipSep2 z TI TO i1 i2 [i1] [i2]) :
    Turn P w K (.Tuple elts kk tpos) (Itzs x y) [z, TI, TO, i1, i2] z (fun i h => IsZip h z TI TO .none ∧ IsTupOf2 h TI (.ref i1) (.ref i2) ∧ (∃ x y, IsTupOf2 h TO x y) ∧ h.IsStrIter i1 (strIterType x) x t1 i ∧ h.IsStrIter i2 (strIterType y) y t2 i) where
  mem := by simp
  obj := fun i h st c hc => by
    obtain ⟨hz, hTI, ⟨x, y, hTO⟩, ⟨o1, e1, _, d1⟩, ⟨o2, e2, _, d2⟩⟩ := st
    have e' : c = z ∨ c = TI ∨ c = TO ∨ c = i1 ∨ c = i2 := by simpa using hc
    rcases e' with q | q | q | q | q
    · rw [q]; exact ⟨_, hz, fun v q => nomatch q⟩
    · rw [q]; exact ⟨_, hTI, fun v q => nomatch q⟩
    · rw [q]; exact ⟨_, hTO, fun v q => nomatch q⟩
    · rw [q]; exact ⟨o1, e1, fun v q => by rw [d1] at q; cases q⟩
    · rw [q]; exact ⟨o2, e2, fun v q => by rw [d2] at q; cases q⟩
  keep := fun i h h' st k => by
    obtain ⟨hz, hTI, ⟨x, y, hTO⟩, ⟨o1, e1, c1⟩, ⟨o2, e2, c2⟩⟩ := st
    exact ⟨k z (by simp) _ hz, k TI (by simp) _ hTI, ⟨x, y, k TO (by simp) _ hTO⟩, ⟨o1, k i1 (by simp) o1 e1, c1⟩, ⟨o2, k i2 (by simp) o2 e2, c2⟩⟩
  item := by
    intro X hP hw hK hc i pins s σ H E I hf st hg
    subst hP hw hK
    obtain ⟨hz, hTI, ⟨x0, y0, hTO⟩, h1, h2⟩ := st
    obtain ⟨l1, l2⟩ := hg
    have hzl : z < s.heap.objs.size := Heap.lt_size hz
    refine wpAny_pyNext_zipD2_item (St1 := fun i h => h.IsStrIter i1 (strIterType x) x t1 i) (St2 := fun i h => h.IsStrIter i2 (strIterType y) y t2 i) D (Draws.text (A := X.A.in1) (I.ok.hd hc) i1 x t1) (Draws.text (A := X.A.in1) (I.ok.hd hc) i2 y t2) hz hTI hTO h1 h2 l1 l2 fun x1 x2 h' tk p1 p2 z' TO' h1' h2' hT hsz hk => ?_
    obtain ⟨c, u, hc1, rfl⟩ := p1
    obtain ⟨d, u2, hc2, rfl⟩ := p2
    refine ⟨_, rfl, wpAny_letOwnedTupleGo_zip (s := { s with heap := h', toks := tk }) z' fun h'' z'' sb => ?_⟩
    have hT2 : h''.get? s.heap.objs.size = some { cls := .type "tuple", data := .seq #[.str ⟨#[c]⟩ u, .str ⟨#[d]⟩ u2] } := (sb.2 _ (Nat.ne_of_gt hzl)).trans hT
    have new : ObjOk X.prog X.w (upd H s.heap.objs.size (.tup [.str ⟨#[c]⟩, .str ⟨#[d]⟩])) h'' s.heap.objs.size (.tup [.str ⟨#[c]⟩, .str ⟨#[d]⟩]) :=
      ⟨by show 2 ≤ sizeLine; decide, [.str ⟨#[c]⟩ u, .str ⟨#[d]⟩ u2], .cons ⟨u, rfl⟩ (.cons ⟨u2, rfl⟩ .nil), ⟨_, hT2, rfl, _, rfl⟩⟩
    have I1 : Inv X pins σ (upd H s.heap.objs.size (.tup [.str ⟨#[c]⟩, .str ⟨#[d]⟩])) { s with heap := h'', toks := tk } :=
      I.turnedNew (t' := tk) (ch := [z, TI, TO, i1, i2]) (fun c o hb q => (sb.2 c (fun q' => hb (by simp [q']))).trans (hk c o (fun q' => hb (by simp [q'])) (fun q' => hb (by simp [q'])) (fun q' => hb (by simp [q'])) (fun q' => hb (by simp [q'])) q)) hf (Nat.le_refl _) new
    refine ⟨.ref s.heap.objs.size, _, I1, rfl, ⟨_, c, d, rfl, I.hok.fresh (Nat.le_refl _), rfl, hc1, hc2⟩, ⟨z'', ?_, ⟨.str ⟨#[c]⟩ u, .str ⟨#[d]⟩ u2, ?_⟩, ?_, ?_⟩, fun c hcm => ?_⟩
    · exact (sb.2 _ D.TIz).trans (hk _ _ D.TIz D.TITO D.TIi1 D.TIi2 hTI)
    · exact (sb.2 _ D.TOz).trans TO'
    · obtain ⟨o, e, r⟩ := h1'
      exact ⟨o, (sb.2 _ (fun q => D.zf1 (by rw [← q]; exact D.mem1))).trans e, r⟩
    · obtain ⟨o, e, r⟩ := h2'
      exact ⟨o, (sb.2 _ (fun q => D.zf2 (by rw [← q]; exact D.mem2))).trans e, r⟩
    · have hlt : c < s.heap.objs.size := by
        have e' : c = z ∨ c = TI ∨ c = TO ∨ c = i1 ∨ c = i2 := by simpa using hcm
        rcases e' with q | q | q | q | q
        · rw [q]; exact hzl
        · rw [q]; exact Heap.lt_size hTI
        · rw [q]; exact Heap.lt_size hTO
        · rw [q]; obtain ⟨_, e1, _⟩ := h1; exact Heap.lt_size e1
        · rw [q]; obtain ⟨_, e2, _⟩ := h2; exact Heap.lt_size e2
      rw [upd_ne (Nat.ne_of_lt hlt)]
      exact (hf c hcm).1
  done := by
    intro X hP hw hK hc i pins s σ H E I hf st hg
    subst hP hw hK
    obtain ⟨hz, hTI, ⟨x0, y0, hTO⟩, h1, h2⟩ := st
    obtain ⟨l1, l2, he⟩ := hg
    exact wpAny_pyNext_zipD2_end (St1 := fun i h => h.IsStrIter i1 (strIterType x) x t1 i) (St2 := fun i h => h.IsStrIter i2 (strIterType y) y t2 i) D (Draws.text (A := X.A.in1) (I.ok.hd hc) i1 x t1) (Draws.text (A := X.A.in1) (I.ok.hd hc) i2 y t2) hz hTI hTO h1 h2 l1 l2 he fun h' tk hk => ⟨rfl, I.turnedL (t' := tk) (ch := [z, TI, TO, i1, i2]) (fun c o hb q =>
      hk c o (fun q' => hb (by simp [q'])) (fun q' => hb (by simp [q'])) (fun q' => hb (by simp [q'])) (fun q' => hb (by simp [q'])) q) hf⟩
  self := fun A i s Q E st h => wpAny_pyIter_zip st.1 h
def iZips (ta : TA) : TI := fun σ H R => ta σ H fun vs H1 => ∃ x y, vs = [.str x, .str y] ∧ R (Itzs x y) H1
theorem pi_zips {X : Cx} {e e2 : Expr} {ta : TA} {p pos tpos : Pos} {elts : List Expr} {kk : Nat} (hg : Gl X "zip") (hm : X.mg "zip" = none) (ha : PA X [e, e2] ta)
    (hs : starEach [e, e2] X.env = (false, eval e X.env) :: starEach [e2] X.env := by rfl) (hpl : (backTo pos (starEach [e2] X.env)).any (·.1) = false := by rfl) :
    PI X (.Tuple elts kk tpos) (.Call (.Name "zip" p) [e, e2] [] pos) (iZips ta) := by
  refine ⟨fun pins s σ H R I h => ?_⟩
  refine Call_ (ld_blt I hg hm PyProof.Rows.boot_zip (PyProof.Rows.callWith_type1 (thn (ha.run pos pins s σ H _ I h) fun us s1 ⟨vs, H1, I1, r1, q1⟩ => ?_) hs hpl))
  obtain ⟨x, y, ex, q⟩ := q1
  subst ex
  cases r1 with
  | cons r rr =>
    cases rr with
    | cons r' rr =>
      cases rr
      obtain ⟨t1, rfl⟩ := r
      obtain ⟨t2, rfl⟩ := r'
      refine zip_begins2 (begins_text x t1) (begins_text y t2) True.intro True.intro fun h' hz hTI hTO h1 h2 hsz hk => wpAny_pyIter_zip hz ?_
      have I2 : Inv X pins σ H1 { s1 with heap := h' } := I1.kept (t' := s1.toks) hk
      have hsep : ZipSep2 (s1.heap.objs.size + 4) (s1.heap.objs.size + 2) (s1.heap.objs.size + 3) s1.heap.objs.size (s1.heap.objs.size + 1) [s1.heap.objs.size] [s1.heap.objs.size + 1] := zip_sep2 (fp1 := []) (fp2 := []) (by simp) (by simp)
      refine ⟨s1.heap.objs.size + 4, [s1.heap.objs.size + 4, s1.heap.objs.size + 2, s1.heap.objs.size + 3, s1.heap.objs.size, s1.heap.objs.size + 1], _, _, H1, rfl, I2, turn_zips (t1 := t1) (t2 := t2) hsep, ⟨hz, hTI, ⟨_, _, hTO⟩, ⟨_, h1, rfl, rfl⟩, ⟨_, h2, rfl, rfl⟩⟩, fun c hcm => ?_, q⟩
      have e' : c = s1.heap.objs.size + 4 ∨ c = s1.heap.objs.size + 2 ∨ c = s1.heap.objs.size + 3 ∨ c = s1.heap.objs.size ∨ c = s1.heap.objs.size + 1 := by simpa using hcm
      have hle : s1.heap.objs.size ≤ c := by
        rcases e' with z | z | z | z | z
        · rw [z]; exact Nat.le_add_right _ _
        · rw [z]; exact Nat.le_add_right _ _
        · rw [z]; exact Nat.le_add_right _ _
        · rw [z]; exact Nat.le_refl _
        · rw [z]; exact Nat.le_add_right _ _
      exact I1.fpOk hle (I1.hok.fresh hle)
end Yl

set_option maxRecDepth 100000
set_option maxHeartbeats 4000000
/-! Y4: what the small language's operations come to. -/
namespace Yl
open PySem PySem.Spec PyProof.Rows L2
def flV : D → V
  | .bl b => .bl b
  | .int i => .int i
  | .str s => .str (ts s)
  | _ => .non
section
variable {M : Mx} {F : Hp} {m : List Addr}
theorem flt_rep {v : V} {d : D} (r : Rep M F m v d) (h : flt d = true) : v = flV d := by
  cases r <;> first | rfl | (cases h; done)
theorem flt_flat {d : D} (h : flt d = true) : flatV (flV d) = true := by
  cases d <;> first | rfl | (cases h; done)
theorem flt_reps {vs : List V} {ds : List D} (r : RepL M F m vs ds) (h : ds.all flt = true) : vs = ds.map flV := by
  induction ds generalizing vs with
  | nil => exact r.nil_inv
  | cons d ds ih =>
    obtain ⟨v, us, rfl, r1, r2⟩ := r.cons_inv
    rw [List.all_cons, Bool.and_eq_true_iff] at h
    rw [List.map_cons, flt_rep r1 h.1, ih r2 h.2]
theorem eqV_of {x y : D} (hx : flt x = true) (hy : flt y = true) : eqV (flV x) (flV y) = eqv x y := by
  cases x <;> first | (cases hx; done) | skip
  all_goals cases y <;> first | (cases hy; done) | skip
  all_goals simp only [flV, eqV, eqv]
  rename_i a b
  rw [txBeq_iff]
  show decide (ts a = ts b) = _
  by_cases h : a = b
  · subst h; simp
  · rw [decide_eq_false h, decide_eq_false fun q => h (ts_inj q)]
theorem inV_of {x : D} {ds : List D} (hx : flt x = true) (h : ds.all flt = true) : inV (flV x) (ds.map flV) = ds.any fun z => eqv z x := by
  unfold inV
  rw [List.any_map]
  induction ds with
  | nil => rfl
  | cons d ds ih =>
    rw [List.all_cons, Bool.and_eq_true_iff] at h
    rw [List.any_cons, List.any_cons, ih h.2]
    show (eqV (flV d) (flV x) || _) = _
    rw [eqV_of h.1 hx]
theorem flat_all {ds : List D} (h : ds.all flt = true) : (ds.map flV).all flatV = true := by
  rw [List.all_map]
  exact List.all_eq_true.mpr fun d hd => flt_flat (List.all_eq_true.mp h d hd)
theorem ixN_of {n : Nat} {i : Int} : L2.ixN n i = ixN n i := by
  unfold L2.ixN ixN
  by_cases h : 0 ≤ i
  · rw [if_pos h, if_pos h]
    by_cases h2 : i < (n : Int)
    · rw [if_pos h2, if_pos (by omega)]
    · rw [if_neg h2, if_neg (by omega)]
  · rw [if_neg h, if_neg h]
    by_cases h2 : -(n : Int) ≤ i
    · rw [if_pos h2, if_pos (by omega)]
    · rw [if_neg h2, if_neg (by omega)]
theorem atI_of {α : Type} {xs : List α} {i : Int} : atI xs i = (ixN xs.length i).bind fun j => xs[j]? := by
  unfold atI
  rw [ixN_of]
theorem ix_rep {vs : List V} {ds : List D} {i : Int} {d : D} (r : RepL M F m vs ds) (h : ((ixN ds.length i).bind fun j => ds[j]?) = some d) : ∃ v, atI vs i = some v ∧ Rep M F m v d := by
  rw [atI_of, r.1]
  cases e : ixN ds.length i with
  | none => rw [e] at h; cases h
  | some j =>
    rw [e] at h
    exact r.get h
theorem lookup_some {kvs : List (Tx × Int)} {z : Tx} : (kvs.lookup z).isSome = true ↔ ∃ i, kvs.lookup z = some i := by
  cases kvs.lookup z <;> simp
end
/-! ### dicts -/
theorem eqv_key : ∀ a b : Key, eqv (kD a) (kD b) = decide (a = b)
  | .inl i, .inl j => by
    show (i == j) = _
    by_cases h : i = j
    · subst h; simp
    · have : ¬ (Sum.inl i : Key) = .inl j := fun q => h (Sum.inl.inj q)
      rw [decide_eq_false this]; simpa using h
  | .inr x, .inr y => by
    show txBeq _ _ = _
    rw [txBeq_iff]
    by_cases h : x = y
    · subst h; simp
    · have h1 : ¬ (Sum.inr x : Key) = .inr y := fun q => h (Sum.inr.inj q)
      have h2 : ¬ x.cps.toList = y.cps.toList := fun q => h (by rw [← ts_of x, ← ts_of y, q])
      rw [decide_eq_false h1, decide_eq_false h2]
  | .inl i, .inr y => by rw [decide_eq_false (fun q => nomatch q)]; rfl
  | .inr y, .inl i => by rw [decide_eq_false (fun q => nomatch q)]; rfl
theorem eqv_keys : ∀ a b : List Key, eqvL (a.map kD) (b.map kD) = decide (a = b)
  | [], [] => rfl
  | [], b :: y => rfl
  | a :: x, [] => rfl
  | a :: x, b :: y => by
    show (eqv (kD a) (kD b) && eqvL (x.map kD) (y.map kD)) = _
    rw [eqv_key, eqv_keys x y]
    by_cases h : a = b
    · by_cases h2 : x = y
      · subst h h2; simp
      · simp [h2]
    · simp [h]
theorem eqv_tkey (a b : List Key) : eqv (ktD a) (ktD b) = decide (a = b) := eqv_keys a b
theorem getD_of {κ : Type} [DecidableEq κ] {M : Mx} {F : Hp} {m : List Addr} {R : κ × V → D × D → Prop} {kd : κ → D} (hR : ∀ p q, R p q → q.1 = kd p.1 ∧ Rep M F m p.2 q.2) (he : ∀ a b, eqv (kd a) (kd b) = decide (a = b)) {k : κ} :
    ∀ {vs : List (κ × V)} {es : List (D × D)}, At R vs es → (match getD es (kd k) with | some d => ∃ v', valV vs k = some v' ∧ Rep M F m v' d | none => valV vs k = none)
  | vs, [], r => by
    have := r.nil_inv
    subst this
    exact rfl
  | vs, (a, d) :: es, r => by
    obtain ⟨p, us, rfl, r1, r2⟩ := r.cons_inv
    obtain ⟨h1, h2⟩ := hR _ _ r1
    dsimp only at h1 h2
    have ih := getD_of hR he (k := k) r2
    unfold getD
    rw [h1, he]
    by_cases h : p.1 = k
    · rw [decide_eq_true h, if_pos rfl]
      exact ⟨p.2, valV_pos h, h2⟩
    · rw [decide_eq_false h, if_neg Bool.false_ne_true, valV_neg h]
      exact ih
theorem any_of {κ : Type} [DecidableEq κ] {R : κ × V → D × D → Prop} {kd : κ → D} (hR : ∀ p q, R p q → q.1 = kd p.1) (he : ∀ a b, eqv (kd a) (kd b) = decide (a = b)) {k : κ} :
    ∀ {vs : List (κ × V)} {es : List (D × D)}, At R vs es → (es.any fun q => eqv q.1 (kd k)) = vs.any fun p => decide (p.1 = k)
  | vs, [], r => by
    have := r.nil_inv
    subst this
    rfl
  | vs, q :: es, r => by
    obtain ⟨p, us, rfl, r1, r2⟩ := r.cons_inv
    rw [List.any_cons, List.any_cons, any_of hR he r2, hR _ _ r1, he]
theorem putD_of {κ : Type} [DecidableEq κ] {M : Mx} {F : Hp} {m : List Addr} {kd : κ → D} (he : ∀ a b, eqv (kd a) (kd b) = decide (a = b)) {k : κ} {v : V} {d : D} (r : Rep M F m v d) {vs : List (κ × V)} {es : List (D × D)}
    (h : At (fun p q => q.1 = kd p.1 ∧ Rep M F m p.2 q.2) vs es) : At (fun p q => q.1 = kd p.1 ∧ Rep M F m p.2 q.2) (putK vs k v) (putD es (kd k) d) := by
  unfold putK putD
  rw [any_of (fun p q z => z.1) he h]
  cases vs.any fun p => decide (p.1 = k) with
  | true =>
    rw [if_pos rfl, if_pos rfl]
    refine h.map fun p q z => ?_
    rw [z.1, he]
    by_cases h : p.1 = k
    · rw [decide_eq_true h, if_pos rfl, if_pos h]; exact ⟨rfl, r⟩
    · rw [decide_eq_false h, if_neg Bool.false_ne_true, if_neg h]; exact z
  | false =>
    rw [if_neg Bool.false_ne_true, if_neg Bool.false_ne_true]
    exact h.append (.cons ⟨rfl, r⟩ .nil)
theorem key_of {M : Mx} {F : Hp} {m : List Addr} {v : V} {x : D} (r : Rep M F m v x) (h : flatK x = true) : ∃ k : Key, x = kD k ∧ v = kV k := by
  cases r <;> first | (cases h; done) | skip
  · exact ⟨.inl _, rfl, rfl⟩
  · exact ⟨.inr (ts _), by show D.str _ = D.str (ts _).cps.toList; rw [ts_list], rfl⟩
theorem keys_of {M : Mx} {F : Hp} {m : List Addr} : ∀ {ds : List D} {vs : List V}, RepL M F m vs ds → ds.all flatK = true → ∃ ks : List Key, ds = ks.map kD ∧ vs = ks.map kV
  | [], vs, r, _ => ⟨[], rfl, r.nil_inv⟩
  | d :: ds, vs, r, h => by
    obtain ⟨v, us, rfl, r1, r2⟩ := r.cons_inv
    rw [List.all_cons, Bool.and_eq_true_iff] at h
    obtain ⟨k, rfl, rfl⟩ := key_of r1 h.1
    obtain ⟨ks, rfl, rfl⟩ := keys_of r2 h.2
    exact ⟨k :: ks, rfl, rfl⟩
theorem tkey_of {M : Mx} {w : Wd} {H : Hp} {v : V} {x : D} (wk : WOk M w H) (r : Rep M w.F w.m v x) (h : isTupKey x = true) : ∃ (ks : List Key) (b : Addr), x = ktD ks ∧ v = .ref b ∧ H b = some (.tup (ks.map kV)) := by
  cases r <;> first | (cases h; done) | skip
  rename_i a vs ds hf l p
  obtain ⟨ks, rfl, rfl⟩ := keys_of ⟨l, p⟩ h
  exact ⟨ks, a, rfl, rfl, (wk.le a _ hf).2 rfl⟩
theorem dget_of {M : Mx} {w : Wd} {H : Hp} {v u : V} {x y : D} {t : Bool} {kvs : List (D × D)} (wk : WOk M w H) (r2 : Rep M w.F w.m u y) (e : deref w.h y = .dct t kvs) (rk : Rep M w.F w.m v x) (hf : fits t x = true) :
    ∃ a o, u = .ref a ∧ DGet H a v o ∧ (match getD kvs x with | some d => ∃ v', o = some v' ∧ Rep M w.F w.m v' d | none => o = none) := by
  obtain ⟨a, ob, rfl, rd, c⟩ := den_box wk r2 e rfl
  cases ob <;> first | exact c.elim | skip
  · rename_i vs
    obtain ⟨rfl, c⟩ := c
    obtain ⟨k, rfl, rfl⟩ := key_of rk hf
    exact ⟨a, valV vs k, rfl, .inl ⟨vs, k, rd.1, rfl, rfl⟩, getD_of (kd := kD) (fun p q z => z) eqv_key c⟩
  · rename_i vs
    obtain ⟨rfl, c⟩ := c
    obtain ⟨ks, b, rfl, rfl, hb⟩ := tkey_of wk rk hf
    exact ⟨a, valV vs ks, rfl, .inr ⟨vs, ks, b, rd.1, rfl, hb, rfl⟩, getD_of (kd := ktD) (fun p q z => z) eqv_tkey c⟩
section
variable {M : Mx} {w : Wd} {H : Hp} {v u : V} {x y d : D} {f : Bool} {Q : VK}
theorem o_add_ok (wk : WOk M w H) (r1 : Rep M w.F w.m v x) (r2 : Rep M w.F w.m u y) (e : o_add w.h x y = some (f, d)) (k : Fin M w H f d Q) : rO M.K M.w .add v u H Q := by
  unfold o_add at e
  split at e
  · rename_i i j h1 h2
    cases e
    exact .inl ⟨i, j, den_int wk r1 h1, den_int wk r2 h2, k.here wk (.int _)⟩
  · rename_i a b h1 h2
    split at e
    · rename_i hl
      cases e
      exact .inr (.inl ⟨ts a, ts b, den_str wk r1 h1, den_str wk r2 h2, by rw [ts_len, ts_len, ← lim_eq]; exact hl, by rw [ts_app]; exact k.here wk (.str _)⟩)
    · cases e
  · rename_i a b h1 h2
    split at e
    · rename_i hl
      cases e
      obtain ⟨p, vs, rfl, hp, rl⟩ := den_lst wk r1 h1
      obtain ⟨q, us, rfl, hq, rl2⟩ := den_lst wk r2 h2
      exact .inr (.inr (.inl ⟨p, q, vs, us, rfl, rfl, hp, hq, by rw [rl.1, rl2.1, ← lim_eq]; exact hl, fun l hl => k.box wk rfl hl (At.append rl rl2)⟩))
    · cases e
  · rename_i a b h1 h2
    split at e
    · rename_i hl
      cases e
      obtain ⟨p, vs, rfl, fp, hp, rl⟩ := den_tup wk r1 h1
      obtain ⟨q, us, rfl, fq, hq, rl2⟩ := den_tup wk r2 h2
      refine .inr (.inr (.inr ⟨p, q, vs, us, rfl, rfl, sqT_of wk.le fp, sqT_of wk.le fq, by rw [rl.1, rl2.1, ← lim_eq]; exact hl, fun e => ?_, fun _ e => ?_, fun _ _ l hl => k.tup wk hl (rl.append rl2)⟩))
      · have : a = [] := List.eq_nil_of_length_eq_zero (by rw [← rl.1, e]; rfl)
        subst this
        exact k.here wk (.tup fq rl2.1 rl2.2)
      · have : b = [] := List.eq_nil_of_length_eq_zero (by rw [← rl2.1, e]; rfl)
        subst this
        rw [List.append_nil] at k
        exact k.here wk (.tup fp rl.1 rl.2)
    · cases e
  · cases e
theorem inD_ok {neg : Bool} (wk : WOk M w H) (r1 : Rep M w.F w.m v x) (r2 : Rep M w.F w.m u y) {b : Bool} (e : inD x (deref w.h y) = some b) (k : Q (.bl (if neg then !b else b)) H) : rO M.K M.w (if neg then .nin else .isin) v u H Q := by
  unfold inD at e
  split at e
  · rename_i ys hy
    split at e
    · rename_i hd
      cases e
      rw [Bool.and_eq_true_iff] at hd
      have hd2 := hd.2
      have d1 := dp_of wk.le 6 x v hd.1 r1
      have d2 := den_dp wk r2 hd2
      rw [hy] at d2 hd2
      have sx := shaped_of (by decide) hd.1
      have sy := shaped_of (by decide) hd2
      have e2 : (ys.any fun z => eqv z x) = (toPyL ys).any fun z => PyData.eqv z (toPy x) := by
        rw [toPyL_map, List.any_map]
        have all := hd2
        simp only [depOk] at all
        have : ∀ zs : List D, zs.all (depOk 5) = true → (zs.any fun z => eqv z x) = zs.any ((fun z => PyData.eqv z (toPy x)) ∘ toPy) := by
          intro zs
          induction zs with
          | nil => intro _; rfl
          | cons z zs ih =>
            intro ha
            rw [List.all_cons, Bool.and_eq_true_iff] at ha
            rw [List.any_cons, List.any_cons, ih ha.2]
            have h5 : ∀ (n : Nat) (d : D), depOk n d = true → depOk (n + 1) d = true := by
              intro n
              induction n with
              | zero => intro d h; simp [depOk] at h
              | succ n ih =>
                intro d h
                cases d <;> first | (simp [depOk] at h; done) | rfl | exact h | skip
                all_goals
                  simp only [depOk] at h ⊢
                  exact List.all_eq_true.mpr fun d q => ih d (List.all_eq_true.mp h d q)
            rw [eqv_of 6 z x (h5 5 z ha.1) hd.1]; rfl
        exact this ys all
      rw [e2] at k
      cases neg with
      | false => exact .inl ⟨toPy x, toPyL ys, d1, d2, sx, sy, k⟩
      | true => exact .inl ⟨toPy x, toPyL ys, d1, d2, sx, sy, k⟩
    · cases e
  · rename_i ys hy
    split at e
    · rename_i hd
      cases e
      rw [Bool.and_eq_true_iff] at hd
      obtain ⟨p, vs, rfl, fp, hp, rl⟩ := den_tup wk r2 hy
      have ex := flt_rep r1 hd.1
      have ev := flt_reps rl hd.2
      subst ex ev
      rw [← inV_of hd.1 hd.2] at k
      cases neg with
      | false => exact .inr (.inr (.inr (.inl ⟨p, _, rfl, .inr (sqT_of wk.le fp), flt_flat hd.1, flat_all hd.2, k⟩)))
      | true => exact .inr (.inr (.inr (.inl ⟨p, _, rfl, .inr (sqT_of wk.le fp), flt_flat hd.1, flat_all hd.2, k⟩)))
    · cases e
  · rename_i ys hy
    split at e
    · rename_i hd
      cases e
      rw [Bool.and_eq_true_iff] at hd
      obtain ⟨p, vs, rfl, sq, rl⟩ := (den_flat wk r2 hy rfl (by simp)).ktup_inv
      have ex := flt_rep r1 hd.1
      have ev := flt_reps rl hd.2
      subst ex ev
      rw [← inV_of hd.1 hd.2] at k
      cases neg with
      | false => exact .inr (.inr (.inr (.inl ⟨p, _, rfl, .inr (SqT.k sq), flt_flat hd.1, flat_all hd.2, k⟩)))
      | true => exact .inr (.inr (.inr (.inl ⟨p, _, rfl, .inr (SqT.k sq), flt_flat hd.1, flat_all hd.2, k⟩)))
    · cases e
  · rename_i t kvs hy
    split at e
    · rename_i hf
      cases e
      obtain ⟨a, o, rfl, g, hm⟩ := dget_of wk r2 hy r1 hf
      have : o.isSome = (getD kvs x).isSome := by
        cases q : getD kvs x with
        | none => rw [q] at hm; rw [hm]; rfl
        | some d => rw [q] at hm; obtain ⟨v', rfl, _⟩ := hm; rfl
      rw [← this] at k
      cases neg with
      | false => exact .inr (.inr (.inr (.inr ⟨a, o, rfl, g, k⟩)))
      | true => exact .inr (.inr (.inr (.inr ⟨a, o, rfl, g, k⟩)))
    · cases e
  · rename_i kvs hy
    split at e
    · rename_i s
      cases e
      have r2' := den_flat wk r2 hy rfl (by simp)
      cases r2' with
      | kdct kd h =>
        obtain ⟨es, n, kd⟩ := kd
        obtain ⟨r, hr, hm⟩ := h s
        have : r.isSome = (kvs.lookup s).isSome := by
          cases q : kvs.lookup s with
          | none => rw [q] at hm; rw [hm]; rfl
          | some i =>
            rw [q] at hm
            obtain ⟨u, rfl, _⟩ := hm
            rfl
        rw [← this] at k
        cases neg with
        | false => exact .inr (.inr (.inl ⟨_, es, n, ts s, r, kd, r1.str_inv, rfl, hr, k⟩))
        | true => exact .inr (.inr (.inl ⟨_, es, n, ts s, r, kd, r1.str_inv, rfl, hr, k⟩))
    · cases e
  · rename_i ys hy
    split at e
    · rename_i c
      cases e
      have hu := den_str wk r2 hy
      have : (ys.any fun b => Nat.beq b c) = decide (c ∈ (ts ys).cps.toList) := by
        rw [ts_list]
        by_cases h : c ∈ ys
        · rw [decide_eq_true h]
          exact List.any_eq_true.mpr ⟨c, h, Nat.beq_refl c⟩
        · rw [decide_eq_false h]
          rw [List.any_eq_false]
          intro b hb q
          have := Nat.eq_of_beq_eq_true q
          subst this
          exact h hb
      rw [this] at k
      cases neg with
      | false => exact .inr (.inl ⟨c, ts ys, r1.str_inv, hu, k⟩)
      | true => exact .inr (.inl ⟨c, ts ys, r1.str_inv, hu, k⟩)
    · cases e
  · cases e
theorem o_ix_ok (wk : WOk M w H) (r1 : Rep M w.F w.m v x) (r2 : Rep M w.F w.m u y) (e : o_ix w.h x y = some (f, d)) (k : Fin M w H f d Q) : rO M.K M.w .ix v u H Q := by
  unfold o_ix at e
  split at e
  · rename_i xs i h1
    obtain ⟨p, vs, rfl, hp, rl⟩ := den_lst wk r1 h1
    cases q : (ixN xs.length i).bind fun j => xs[j]? with
    | none => rw [q] at e; cases e
    | some d' =>
      rw [q] at e; cases e
      obtain ⟨w', hw, rr⟩ := ix_rep rl q
      exact .inl (.inl ⟨p, vs, i, w', rfl, r2.int_inv, .inl (.inl hp), hw, k.here wk rr⟩)
  · rename_i xs i h1
    obtain ⟨p, vs, rfl, fp, hp, rl⟩ := den_tup wk r1 h1
    cases q : (ixN xs.length i).bind fun j => xs[j]? with
    | none => rw [q] at e; cases e
    | some d' =>
      rw [q] at e; cases e
      obtain ⟨w', hw, rr⟩ := ix_rep rl q
      exact .inl (.inr (.inl ⟨p, vs, i, w', rfl, r2.int_inv, sqT_of wk.le fp, hw, k.here wk rr⟩))
  · rename_i s i h1
    split at e
    · rename_i hl
      cases q : (ixN s.length i).bind fun j => s[j]? with
      | none => rw [q] at e; cases e
      | some c =>
        rw [q] at e; cases e
        exact .inl (.inr (.inr ⟨ts s, i, c, den_str wk r1 h1, r2.int_inv, by rw [ts_len, ← lim_eq]; exact hl, by rw [ts_list, atI_of]; exact q, k.here wk (.str [c])⟩))
    · cases e
  · rename_i y _ _ t kvs h1
    split at e
    · rename_i hf
      obtain ⟨a, o, rfl, g, hm⟩ := dget_of wk r1 h1 r2 hf
      cases q : getD kvs y with
      | none => rw [q] at e; cases e
      | some d' =>
        rw [q] at e hm; cases e
        obtain ⟨v', rfl, rr⟩ := hm
        exact .inr (.inr ⟨a, v', rfl, g, k.here wk rr⟩)
    · cases e
  · rename_i kvs s h1
    cases q : kvs.lookup s with
    | none => rw [q] at e; cases e
    | some i =>
      rw [q] at e; cases e
      have r1' := den_flat wk r1 h1 rfl (by simp)
      cases r1' with
      | kdct kd h =>
        obtain ⟨es, n, kd⟩ := kd
        obtain ⟨r, hr, hm⟩ := h s
        rw [q] at hm
        obtain ⟨u', rfl, ru⟩ := hm
        exact .inr (.inl ⟨_, ts s, .int i, rfl, r2.str_inv, ⟨es, n, u', kd.at_, kd.lit, hr, ru⟩, k.here wk (.int i)⟩)
  · cases e
theorem op2_ok {o : O2} (wk : WOk M w H) (r1 : Rep M w.F w.m v x) (r2 : Rep M w.F w.m u y) (e : op2 w.h o x y = some (f, d)) (k : Fin M w H f d Q) : rO M.K M.w o v u H Q := by
  cases o with
  | add => exact o_add_ok wk r1 r2 e k
  | ix => exact o_ix_ok wk r1 r2 e k
  | isin =>
    have e : (inD x (deref w.h y)).map (fun b => (false, D.bl b)) = some (f, d) := e
    cases q : inD x (deref w.h y) with
    | none => rw [q] at e; cases e
    | some b =>
      rw [q] at e; cases e
      exact inD_ok (neg := false) wk r1 r2 q (k.here wk (.bl b))
  | nin =>
    have e : (inD x (deref w.h y)).map (fun b => (false, D.bl !b)) = some (f, d) := e
    cases q : inD x (deref w.h y) with
    | none => rw [q] at e; cases e
    | some b =>
      rw [q] at e; cases e
      exact inD_ok (neg := true) wk r1 r2 q (k.here wk (.bl _))
  | eq =>
    have e : o_eq w.h x y = some (f, d) := e
    unfold o_eq at e
    split at e
    · rename_i hd
      cases e
      rw [Bool.and_eq_true_iff] at hd
      refine ⟨_, _, den_dp wk r1 hd.1, den_dp wk r2 hd.2, shaped_of (by decide) hd.1, shaped_of (by decide) hd.2, ?_⟩
      rw [← eqv_of 6 _ _ hd.1 hd.2]
      exact k.here wk (.bl _)
    · cases e
  | ne =>
    have e : o_ne w.h x y = some (f, d) := e
    unfold o_ne at e
    split at e
    · rename_i hd
      cases e
      rw [Bool.and_eq_true_iff] at hd
      refine ⟨_, _, den_dp wk r1 hd.1, den_dp wk r2 hd.2, shaped_of (by decide) hd.1, shaped_of (by decide) hd.2, ?_⟩
      rw [← eqv_of 6 _ _ hd.1 hd.2]
      exact k.here wk (.bl _)
    · cases e
  | isN =>
    have e : o_isN w.h x y = some (f, d) := e
    unfold o_isN at e
    split at e
    · rename_i hy
      cases e
      cases y <;> first | (cases hy; done) | skip
      refine ⟨r2.non_inv, ?_⟩
      have : decide (v = .non) = isNon x := by cases r1 <;> simp [isNon]
      rw [this]
      exact k.here wk (.bl _)
    · cases e
  | notN =>
    have e : o_notN w.h x y = some (f, d) := e
    unfold o_notN at e
    split at e
    · rename_i hy
      cases e
      cases y <;> first | (cases hy; done) | skip
      refine ⟨r2.non_inv, ?_⟩
      have : decide (v = .non) = isNon x := by cases r1 <;> simp [isNon]
      rw [this]
      exact k.here wk (.bl _)
    · cases e
  | lt =>
    have e : o_lt w.h x y = some (f, d) := e
    unfold o_lt at e
    split at e
    · cases e
      exact .inl ⟨_, _, r1.int_inv, r2.int_inv, k.here wk (.bl _)⟩
    · cases e
      rw [txLt_iff] at k
      refine .inr ⟨_, _, r1.str_inv, r2.str_inv, ?_⟩
      rw [ts_list, ts_list]
      exact k.here wk (.bl _)
    · cases e
  | mul =>
    have e : o_mul w.h x y = some (f, d) := e
    unfold o_mul at e
    split at e
    · split at e
      · rename_i hc
        cases e
        exact ⟨_, _, r1.int_inv, r2.int_inv, .inr ⟨by omega, by omega⟩, k.here wk (.int _)⟩
      · cases e
    · cases e
  | fdiv =>
    have e : o_fdiv w.h x y = some (f, d) := e
    unfold o_fdiv at e
    split at e
    · split at e
      · rename_i hc
        cases e
        exact ⟨_, _, r1.int_inv, r2.int_inv, hc, k.here wk (.int _)⟩
      · cases e
    · cases e
  | mod =>
    have e : o_mod w.h x y = some (f, d) := e
    unfold o_mod at e
    split at e
    · split at e
      · rename_i hc
        cases e
        exact ⟨_, _, r1.int_inv, r2.int_inv, hc, k.here wk (.int _)⟩
      · cases e
    · cases e
  | pow =>
    have e : o_pow w.h x y = some (f, d) := e
    unfold o_pow at e
    split at e
    · split at e
      · rename_i hc
        obtain ⟨rfl, rfl⟩ := hc
        cases e
        exact ⟨10, 18, r1.int_inv, r2.int_inv, ⟨by decide, by decide, by decide⟩, k.here wk (.int _)⟩
      · cases e
    · cases e
  | sub =>
    have e : o_sub w.h x y = some (f, d) := e
    unfold o_sub at e
    split at e
    · cases e
      exact ⟨_, _, r1.int_inv, r2.int_inv, k.here wk (.int _)⟩
    · cases e
  | le =>
    have e : o_le w.h x y = some (f, d) := e
    unfold o_le at e
    split at e
    · cases e
      exact ⟨_, _, r1.int_inv, r2.int_inv, k.here wk (.bl _)⟩
    · cases e
  | gt =>
    have e : o_gt w.h x y = some (f, d) := e
    unfold o_gt at e
    split at e
    · cases e
      exact ⟨_, _, r1.int_inv, r2.int_inv, k.here wk (.bl _)⟩
    · cases e
  | ge =>
    have e : o_ge w.h x y = some (f, d) := e
    unfold o_ge at e
    split at e
    · cases e
      exact ⟨_, _, r1.int_inv, r2.int_inv, k.here wk (.bl _)⟩
    · cases e
end
end Yl

set_option maxRecDepth 100000
set_option maxHeartbeats 4000000
/-! Y5: expressions. -/
namespace Yl
open PySem PySem.Spec PyProof.Rows L2
section
variable {X : Cx} {M : Mx} {N : List Str} {sc : Scope} {k : Nat} {W : WX} {G : Gx} {ρ : Env} {hc : Hc} {P : D → Hc → Prop} {PF : Bool → D → Hc → Prop} {B : Bool → Hc → Prop} {a b c e : Expr} {es : List Expr} {x m : Str} {pos p apos : Pos}
/-! ### operators -/
theorem fx_bin {op : Operator} {o : O2} (ho : opOf o = binaryOp op) (no : o ≠ .ix) (hb : Bx X M N sc k W) (h : EX X M G a ρ hc fun x h1 => EX X M G b ρ h1 fun y h2 => ∃ f d, op2 h2 o x y = some (f, d) ∧ PF f d h2) : FX X M G (.BinOp a op b pos) ρ hc PF :=
  .of (pe_op (by rw [← ho]; exact opr_of hb.room o no) pe_rd pe_rd) fun σ w H Q eh wk sk xc q => h σ w H _ eh wk sk xc fun x v w1 H1 hp e1 k1 r1 => hp σ w1 H1 _ rfl k1 (sk.ext e1) (xc.ext e1) fun y u w2 H2 hq e2 k2 r2 => by
    obtain ⟨f, d, he, hp⟩ := hq
    rw [hb.hK, hb.hw]
    exact op2_ok k2 (r1.mono e2.ff e2.mm) r2 he fun v' w3 H3 eh3 e3 k3 rr => q f d v' w3 H3 (by rw [eh3]; exact hp) ((e1.trans e2).trans e3) k3 (rr.back (e1.trans e2))
theorem fx_cmp {op : CmpOp} {o : O2} (ho : opOf o = compareOp op) (no : o ≠ .ix) (hb : Bx X M N sc k W) (hm : behindInMarks op b = false) (h : EX X M G a ρ hc fun x h1 => EX X M G b ρ h1 fun y h2 => ∃ f d, op2 h2 o x y = some (f, d) ∧ PF f d h2) : FX X M G (.Compare a [op] [b] pos) ρ hc PF :=
  .of (pe_cmpR (by rw [← ho]; exact opr_of hb.room o no) pe_rd pe_rd hm) fun σ w H Q eh wk sk xc q => h σ w H _ eh wk sk xc fun x v w1 H1 hp e1 k1 r1 => hp σ w1 H1 _ rfl k1 (sk.ext e1) (xc.ext e1) fun y u w2 H2 hq e2 k2 r2 => by
    obtain ⟨f, d, he, hp⟩ := hq
    rw [hb.hK, hb.hw]
    exact op2_ok k2 (r1.mono e2.ff e2.mm) r2 he fun v' w3 H3 eh3 e3 k3 rr => q f d v' w3 H3 (by rw [eh3]; exact hp) ((e1.trans e2).trans e3) k3 (rr.back (e1.trans e2))
theorem tx_cmp {op : CmpOp} {o : O2} (ho : opOf o = compareOp op) (no : o ≠ .ix) (hb : Bx X M N sc k W) (hm : behindInMarks op b = false) (h : EX X M G a ρ hc fun x h1 => EX X M G b ρ h1 fun y h2 => ∃ v, op2 h2 o x y = some (false, .bl v) ∧ B v h2) : TX X M G (.Compare a [op] [b] pos) ρ hc B :=
  .of (pt_cmpR (by rw [← ho]; exact opr_of hb.room o no) pe_rd pe_rd hm) fun σ w H Q eh wk sk xc q => h σ w H _ eh wk sk xc fun x v w1 H1 hp e1 k1 r1 => hp σ w1 H1 _ rfl k1 (sk.ext e1) (xc.ext e1) fun y u w2 H2 hq e2 k2 r2 => by
    obtain ⟨z, he, hp⟩ := hq
    rw [hb.hK, hb.hw]
    exact op2_ok k2 (r1.mono e2.ff e2.mm) r2 he fun v' w3 H3 eh3 e3 k3 rr => ⟨z, Rep.bl_inv rr, q z w3 H3 (by rw [eh3]; exact hp) ((e1.trans e2).trans e3) k3⟩
theorem fx_ix (hb : Bx X M N sc k W) (hs : PlainIx b) (h : EX X M G a ρ hc fun x h1 => EX X M G b ρ h1 fun y h2 => ∃ f d, op2 h2 .ix x y = some (f, d) ∧ PF f d h2) : FX X M G (.Subscript a b pos) ρ hc PF :=
  .of (pe_ix (ixr_of hb.room) pe_rd pe_rd hs) fun σ w H Q eh wk sk xc q => h σ w H _ eh wk sk xc fun x v w1 H1 hp e1 k1 r1 => hp σ w1 H1 _ rfl k1 (sk.ext e1) (xc.ext e1) fun y u w2 H2 hq e2 k2 r2 => by
    obtain ⟨f, d, he, hp⟩ := hq
    rw [hb.hK, hb.hw]
    exact op2_ok k2 (r1.mono e2.ff e2.mm) r2 he fun v' w3 H3 eh3 e3 k3 rr => q f d v' w3 H3 (by rw [eh3]; exact hp) ((e1.trans e2).trans e3) k3 (rr.back (e1.trans e2))
/-- a <= b <= c and its like -/
def chainP (h : Hc) (o : O2) (x y : D) (A : Prop) (Z : Prop) : Prop := ∃ v, op2 h o x y = some (false, .bl v) ∧ if v = true then A else Z
theorem ex_chain {op op' : CmpOp} {o o' : O2} (ho : opOf o = compareOp op) (no : o ≠ .ix) (ho' : opOf o' = compareOp op') (no' : o' ≠ .ix) (hb : Bx X M N sc k W)
    (hs : ∀ {r r' : R2}, OpR X (compareOp op) r → OpR X (compareOp op') r' → PE X (.Compare a [op, op'] [b, c] pos) (tChain r r' (rdE X a) (rdE X b) (rdE X c)))
    (h : EX X M G a ρ hc fun x h1 => EX X M G b ρ h1 fun y h2 => chainP h2 o x y (EX X M G c ρ h2 fun z h3 => ∃ d, op2 h3 o' y z = some (false, d) ∧ P d h3) (P (.bl false) h2)) : EX X M G (.Compare a [op, op'] [b, c] pos) ρ hc P :=
  .of (hs (by rw [← ho]; exact opr_of hb.room o no) (by rw [← ho']; exact opr_of hb.room o' no')) fun σ w H Q eh wk sk xc q => h σ w H _ eh wk sk xc fun x v w1 H1 hp e1 k1 r1 => hp σ w1 H1 _ rfl k1 (sk.ext e1) (xc.ext e1) fun y u w2 H2 hq e2 k2 r2 => by
    obtain ⟨z, he, hp⟩ := hq
    rw [hb.hK, hb.hw]
    have e12 := e1.trans e2
    refine op2_ok k2 (r1.mono e2.ff e2.mm) r2 he fun v' w3 H3 eh3 e3 k3 rr => ⟨z, Rep.bl_inv rr, ?_⟩
    cases z with
    | true =>
      rw [if_pos rfl] at hp ⊢
      have e13 := e12.trans e3
      refine hp σ w3 H3 _ eh3 k3 (sk.ext e13) (xc.ext e13) fun z t w4 H4 hr e4 k4 r4 => ?_
      obtain ⟨d, he', hp'⟩ := hr
      refine op2_ok k4 (r2.mono (fun a o z => e4.ff a o (e3.ff a o z)) fun i a z => e4.mm i a (e3.mm i a z)) r4 he' fun v5 w5 H5 eh5 e5 k5 rr5 => ?_
      exact q d v5 w5 H5 (by rw [eh5]; exact hp') ((e13.trans e4).trans e5) k5 rr5
    | false =>
      rw [if_neg Bool.false_ne_true] at hp ⊢
      exact q _ _ w3 H3 (by rw [eh3]; exact hp) (e12.trans e3) k3 (.bl false)
theorem tx_chain {op op' : CmpOp} {o o' : O2} (ho : opOf o = compareOp op) (no : o ≠ .ix) (ho' : opOf o' = compareOp op') (no' : o' ≠ .ix) (hb : Bx X M N sc k W)
    (hs : ∀ {r r' : R2}, OpR X (compareOp op) r → OpR X (compareOp op') r' → PT X (.Compare a [op, op'] [b, c] pos) (tTest (tChain r r' (rdE X a) (rdE X b) (rdE X c))))
    (h : EX X M G a ρ hc fun x h1 => EX X M G b ρ h1 fun y h2 => chainP h2 o x y (EX X M G c ρ h2 fun z h3 => ∃ d, op2 h3 o' y z = some (false, .bl d) ∧ B d h3) (B false h2)) : TX X M G (.Compare a [op, op'] [b, c] pos) ρ hc B :=
  .of (hs (by rw [← ho]; exact opr_of hb.room o no) (by rw [← ho']; exact opr_of hb.room o' no')) fun σ w H Q eh wk sk xc q => h σ w H _ eh wk sk xc fun x v w1 H1 hp e1 k1 r1 => hp σ w1 H1 _ rfl k1 (sk.ext e1) (xc.ext e1) fun y u w2 H2 hq e2 k2 r2 => by
    obtain ⟨z, he, hp⟩ := hq
    rw [hb.hK, hb.hw]
    have e12 := e1.trans e2
    refine op2_ok k2 (r1.mono e2.ff e2.mm) r2 he fun v' w3 H3 eh3 e3 k3 rr => ⟨z, Rep.bl_inv rr, ?_⟩
    cases z with
    | true =>
      rw [if_pos rfl] at hp ⊢
      have e13 := e12.trans e3
      refine hp σ w3 H3 _ eh3 k3 (sk.ext e13) (xc.ext e13) fun z t w4 H4 hr e4 k4 r4 => ?_
      obtain ⟨d, he', hp'⟩ := hr
      refine op2_ok k4 (r2.mono (fun a o z => e4.ff a o (e3.ff a o z)) fun i a z => e4.mm i a (e3.mm i a z)) r4 he' fun v5 w5 H5 eh5 e5 k5 rr5 => ?_
      exact ⟨d, Rep.bl_inv rr5, q d w5 H5 (by rw [eh5]; exact hp') ((e13.trans e4).trans e5) k5⟩
    | false =>
      rw [if_neg Bool.false_ne_true] at hp ⊢
      exact ⟨false, rfl, q _ w3 H3 (by rw [eh3]; exact hp) (e12.trans e3) k3⟩
/-! ### truth -/
theorem truV_of {w : Wd} {H : Hp} {v : V} {d : D} {t : Bool} (wk : WOk M w H) (r : Rep M w.F w.m v d) (h : tru w.h d = some t) : TruV M.K v H t := by
  unfold tru at h
  split at h
  · rename_i e; cases h
    rw [(den_flat wk r e rfl (by simp)).non_inv]; exact rfl
  · rename_i e; cases h
    rw [(den_flat wk r e rfl (by simp)).bl_inv]; exact rfl
  · rename_i e; cases h
    rw [den_int wk r e]; exact rfl
  · rename_i s e
    split at h
    · rename_i hl
      cases h
      rw [den_str wk r e]
      refine ⟨by rw [ts_len, ← lim_eq]; exact hl, ?_⟩
      rw [ts_len]
      cases s with
      | nil => rfl
      | cons a s => simp; omega
    · cases h
  · rename_i xs e; cases h
    obtain ⟨a, vs, rfl, ha, rl⟩ := den_lst wk r e
    refine .inl ⟨vs, .inl (.inl ha), ?_⟩
    have := rl.1
    cases xs <;> cases vs <;> simp_all
  · rename_i xs e; cases h
    obtain ⟨a, vs, rfl, fa, ha, rl⟩ := den_tup wk r e
    refine .inr (.inl ⟨vs, sqT_of wk.le fa, ?_⟩)
    have := rl.1
    cases xs <;> cases vs <;> simp_all
  · cases h
theorem tx_tru (he : ∀ whole, isTrue e X.env whole = (do let v ← whole; standAt e.pos; holding [v] (truthy v))) (hb : Bw X M N sc) (h : EX X M G e ρ hc fun d h' => ∃ t, tru h' d = some t ∧ B t h') : TX X M G e ρ hc B :=
  .of (pt_truth pe_rd he) fun σ w H Q eh wk sk xc q => h σ w H _ eh wk sk xc fun d v w1 H1 hp e1 k1 r1 => by
    obtain ⟨t, ht, hp⟩ := hp
    exact ⟨t, by rw [hb.hK]; exact truV_of k1 r1 ht, q t w1 H1 hp e1 k1⟩
theorem tx_not (h : TX X M G a ρ hc fun v h' => B (!v) h') : TX X M G (.UnaryOp .Not a pos) ρ hc B := .of (pt_not pt_rd) fun σ w H Q eh wk sk xc q => h σ w H _ eh wk sk xc fun v w1 H1 p e1 k1 => q _ w1 H1 p e1 k1
theorem wx_and1 (h : TX X M G a ρ hc B) : WXX X M G (.BoolOp .And [a] pos) ρ hc B := .of (pw_and1 pt_rd) h
theorem wx_or1 (h : TX X M G a ρ hc B) : WXX X M G (.BoolOp .Or [a] pos) ρ hc B := .of (pw_or1 pt_rd) h
theorem wx_and (h : TX X M G a ρ hc fun v h' => (v = true → WXX X M G (.BoolOp .And (b :: es) pos) ρ h' B) ∧ (v = false → B false h')) : WXX X M G (.BoolOp .And (a :: b :: es) pos) ρ hc B :=
  .of (pw_and pt_rd pw_rd) fun σ w H Q eh wk sk xc q => h σ w H _ eh wk sk xc fun v w1 H1 p e1 k1 => by
    cases v with
    | true =>
      rw [if_pos rfl]
      exact p.1 rfl σ w1 H1 _ rfl k1 (sk.ext e1) (xc.ext e1) fun v w2 H2 p2 e2 k2 => q _ w2 H2 p2 (e1.trans e2) k2
    | false =>
      rw [if_neg Bool.false_ne_true]
      exact q _ w1 H1 (p.2 rfl) e1 k1
theorem wx_or (h : TX X M G a ρ hc fun v h' => (v = false → WXX X M G (.BoolOp .Or (b :: es) pos) ρ h' B) ∧ (v = true → B true h')) : WXX X M G (.BoolOp .Or (a :: b :: es) pos) ρ hc B :=
  .of (pw_or pt_rd pw_rd) fun σ w H Q eh wk sk xc q => h σ w H _ eh wk sk xc fun v w1 H1 p e1 k1 => by
    cases v with
    | true =>
      rw [if_pos rfl]
      exact q _ w1 H1 (p.2 rfl) e1 k1
    | false =>
      rw [if_neg Bool.false_ne_true]
      exact p.1 rfl σ w1 H1 _ rfl k1 (sk.ext e1) (xc.ext e1) fun v w2 H2 p2 e2 k2 => q _ w2 H2 p2 (e1.trans e2) k2
theorem ex_one {op : BoolOp} (h : EX X M G a ρ hc P) : EX X M G (.BoolOp op [a] pos) ρ hc P := .of (pe_one pe_rd) h
theorem ex_and (h : EX X M G a ρ hc fun d h' => ∃ v, d = .bl v ∧ (v = true → EX X M G (.BoolOp .And (b :: es) pos) ρ h' P) ∧ (v = false → P (.bl false) h')) : EX X M G (.BoolOp .And (a :: b :: es) pos) ρ hc P :=
  .of (pe_and pe_rd pe_rd) fun σ w H Q eh wk sk xc q => h σ w H _ eh wk sk xc fun d z w1 H1 p e1 k1 r1 => by
    obtain ⟨v, rfl, p⟩ := p
    refine ⟨v, r1.bl_inv, ?_⟩
    cases v with
    | true =>
      rw [if_pos rfl]
      exact p.1 rfl σ w1 H1 _ rfl k1 (sk.ext e1) (xc.ext e1) fun d z w2 H2 p2 e2 k2 r2 => q _ _ w2 H2 p2 (e1.trans e2) k2 r2
    | false =>
      rw [if_neg Bool.false_ne_true]
      exact q _ _ w1 H1 (p.2 rfl) e1 k1 (.bl false)
theorem ex_or (h : EX X M G a ρ hc fun d h' => ∃ v, d = .bl v ∧ (v = false → EX X M G (.BoolOp .Or (b :: es) pos) ρ h' P) ∧ (v = true → P (.bl true) h')) : EX X M G (.BoolOp .Or (a :: b :: es) pos) ρ hc P :=
  .of (pe_or pe_rd pe_rd) fun σ w H Q eh wk sk xc q => h σ w H _ eh wk sk xc fun d z w1 H1 p e1 k1 r1 => by
    obtain ⟨v, rfl, p⟩ := p
    refine ⟨v, r1.bl_inv, ?_⟩
    cases v with
    | true =>
      rw [if_pos rfl]
      exact q _ _ w1 H1 (p.2 rfl) e1 k1 (.bl true)
    | false =>
      rw [if_neg Bool.false_ne_true]
      exact p.1 rfl σ w1 H1 _ rfl k1 (sk.ext e1) (xc.ext e1) fun d z w2 H2 p2 e2 k2 r2 => q _ _ w2 H2 p2 (e1.trans e2) k2 r2
/-- not a, as a value: a's value is a bool -/
theorem ex_not (h : EX X M G a ρ hc fun d h' => ∃ v, d = .bl v ∧ P (.bl !v) h') : EX X M G (.UnaryOp .Not a pos) ρ hc P :=
  .of (pe_not pe_rd) fun σ w H Q eh wk sk xc q => h σ w H _ eh wk sk xc fun d z w1 H1 p e1 k1 r1 => by
    obtain ⟨v, rfl, p⟩ := p
    exact ⟨v, r1.bl_inv, q _ _ w1 H1 p e1 k1 (.bl _)⟩
theorem fx_ite (h : TX X M G c ρ hc fun v h' => (v = true → FX X M G a ρ h' PF) ∧ (v = false → FX X M G b ρ h' PF)) : FX X M G (.IfExp c a b pos) ρ hc PF :=
  .of (pe_ifExp pt_rd pe_rd pe_rd) fun σ w H Q eh wk sk xc q => h σ w H _ eh wk sk xc fun v w1 H1 p e1 k1 => by
    cases v with
    | true =>
      rw [if_pos rfl]
      exact p.1 rfl σ w1 H1 _ rfl k1 (sk.ext e1) (xc.ext e1) fun f d z w2 H2 p2 e2 k2 r2 => q f d z w2 H2 p2 (e1.trans e2) k2 (r2.back e1)
    | false =>
      rw [if_neg Bool.false_ne_true]
      exact p.2 rfl σ w1 H1 _ rfl k1 (sk.ext e1) (xc.ext e1) fun f d z w2 H2 p2 e2 k2 r2 => q f d z w2 H2 p2 (e1.trans e2) k2 (r2.back e1)
/-! ### arguments, displays -/
theorem ax_nil {T : List D → Hc → Prop} (h : T [] hc) : AX X M G [] ρ hc T := .of pa_nil fun σ w H Q eh wk sk xc q => q [] [] w H (by rw [eh]; exact h) Ext.refl wk .nil
theorem ax_cons {T : List D → Hc → Prop} (hs : starEach (e :: es) X.env = (false, eval e X.env) :: starEach es X.env) (h : EX X M G e ρ hc fun d h1 => AX X M G es ρ h1 fun ds h2 => T (d :: ds) h2) : AX X M G (e :: es) ρ hc T :=
  .of (pa_cons pe_rd pa_rd hs) fun σ w H Q eh wk sk xc q => h σ w H _ eh wk sk xc fun d v w1 H1 p e1 k1 r1 => p σ w1 H1 _ rfl k1 (sk.ext e1) (xc.ext e1) fun ds vs w2 H2 p2 e2 k2 r2 => q _ _ w2 H2 p2 (e1.trans e2) k2 (.cons (r1.mono e2.ff e2.mm) r2)
theorem fin_of {w w1 : Wd} {H H1 : Hp} {f : Bool} {d : D} {Q : VK} (e1 : Ext w H w1 H1) (p : PF f d w1.h) (q : ∀ f d v w2 H2, PF f d w2.h → Ext w H w2 H2 → WOk M w2 H2 → RR M w H w2 H2 v f d → Q v H2) : Fin M w1 H1 f d Q := fun v w2 H2 eh e2 k2 r => q f d v w2 H2 (by rw [eh]; exact p) (e1.trans e2) k2 (r.back e1)
theorem ex_tup {n : Nat} (h : AX X M G es ρ hc fun ds h' => P (.tup ds) h' ∧ ds.length ≤ sizeLine) : EX X M G (.Tuple es n pos) ρ hc P :=
  .of (pe_tup pa_rd) fun σ w H Q eh wk sk xc q => h σ w H _ eh wk sk xc fun ds vs w1 H1 p e1 k1 r1 => ⟨by rw [r1.1]; exact p.2, fun a ha => Fin.tup (fin_of (PF := fun f d h => f = false ∧ P d h) e1 ⟨rfl, p.1⟩ fun f d v w2 H2 p2 e2 k2 r2 => by
    obtain ⟨rfl, p2⟩ := p2
    exact q d v w2 H2 p2 e2 k2 r2) k1 ha r1⟩
theorem fx_lst (h : AX X M G es ρ hc fun ds h' => PF true (.lst ds) h' ∧ ds.length ≤ sizeLine) : FX X M G (.List es pos) ρ hc PF :=
  .of (pe_lst pa_rd) fun σ w H Q eh wk sk xc q => h σ w H _ eh wk sk xc fun ds vs w1 H1 p e1 k1 r1 => ⟨by rw [r1.1]; exact p.2, fun a ha => Fin.box (fin_of e1 p.1 q) k1 rfl ha r1⟩
/-! ### calls of built-ins -/
theorem fx_callB {id : String} {r : List V → Hp → VK → Prop} (hcr : CallR X (.builtin id) r) (hb : Bw X M N sc) (hm : M.mg x = none) (hv : bootBuiltins x = some (.builtin id)) (hg : sc.names.lookup x = some .globalImplicit) (hn : x ≠ "__name__") (hdb : (x == ("__debug__" : Str)) = false)
    (he : starEach (e :: es) X.env = (false, eval e X.env) :: starEach es X.env) (hpl : (backTo pos (starEach es X.env)).any (·.1) = false)
    (h : AX X M G (e :: es) ρ hc fun ds h' => ∃ f d, PF f d h' ∧ ∀ vs w H (Q : VK), w.h = h' → WOk M w H → RepL M w.F w.m vs ds → Fin M w H f d Q → r vs H Q) : FX X M G (.Call (.Name x p) (e :: es) [] pos) ρ hc PF :=
  .of (pe_callB hcr (hb.gl hg) (by rw [hb.hmg]; exact hm) hv pa_rd hn hdb he hpl) fun σ w H Q eh wk sk xc q => h σ w H _ eh wk sk xc fun ds vs w1 H1 pd e1 k1 r1 => by
    obtain ⟨f, d, pf, pr⟩ := pd
    exact pr vs w1 H1 Q rfl k1 r1 (fin_of e1 pf q)
theorem fx_callTy {id : String} {r : List V → Hp → VK → Prop} (hcr : CallR X (.type id) r) (hb : Bw X M N sc) (hm : M.mg x = none) (hv : bootBuiltins x = some (.type id)) (hg : sc.names.lookup x = some .globalImplicit) (hn : x ≠ "__name__") (hdb : (x == ("__debug__" : Str)) = false)
    (he : starEach (e :: es) X.env = (false, eval e X.env) :: starEach es X.env) (hpl : (backTo pos (starEach es X.env)).any (·.1) = false)
    (h : AX X M G (e :: es) ρ hc fun ds h' => ∃ f d, PF f d h' ∧ ∀ vs w H (Q : VK), w.h = h' → WOk M w H → RepL M w.F w.m vs ds → Fin M w H f d Q → r vs H Q) : FX X M G (.Call (.Name x p) (e :: es) [] pos) ρ hc PF :=
  .of (pe_callTy hcr (hb.gl hg) (by rw [hb.hmg]; exact hm) hv pa_rd hn hdb he hpl) fun σ w H Q eh wk sk xc q => h σ w H _ eh wk sk xc fun ds vs w1 H1 pd e1 k1 r1 => by
    obtain ⟨f, d, pf, pr⟩ := pd
    exact pr vs w1 H1 Q rfl k1 r1 (fin_of e1 pf q)
end
end Yl

set_option maxRecDepth 100000
set_option maxHeartbeats 4000000
/-! Y6: calls of defs, fields, slices, what is walked, comprehensions, methods, instances. -/
namespace Yl
open PySem PySem.Spec PyProof.Rows L2
/-! ### data that names no cell -/
theorem nrL_get {ds : List D} (h : nrL ds = true) {i : Nat} {d : D} (e : ds[i]? = some d) : d.nr = true := by
  induction ds generalizing i with
  | nil => simp at e
  | cons a ds ih =>
    simp only [nrL, Bool.and_eq_true_iff] at h
    cases i with
    | zero => simp at e; subst e; exact h.1
    | succ i => exact ih h.2 (by simpa using e)
theorem nrK_get {ds : List (D × D)} (h : nrK ds = true) {i : Nat} {d : D × D} (e : ds[i]? = some d) : d.2.nr = true := by
  induction ds generalizing i with
  | nil => simp at e
  | cons a ds ih =>
    obtain ⟨a1, a2⟩ := a
    simp only [nrK, nrP, Bool.and_eq_true_iff] at h
    cases i with
    | zero => simp at e; subst e; exact h.1.2
    | succ i => exact ih h.2 (by simpa using e)
theorem nrF_get {ds : List (Tx × D)} (h : nrF ds = true) {i : Nat} {d : Tx × D} (e : ds[i]? = some d) : d.2.nr = true := by
  induction ds generalizing i with
  | nil => simp at e
  | cons a ds ih =>
    obtain ⟨a1, a2⟩ := a
    simp only [nrF, nrQ, Bool.and_eq_true_iff] at h
    cases i with
    | zero => simp at e; subst e; exact h.1
    | succ i => exact ih h.2 (by simpa using e)
section
variable {M : Mx} {F : Hp} {m m' : List Addr}
theorem rep_nr {v : V} {d : D} (r : Rep M F m v d) (h : d.nr = true) : Rep M F m' v d := by
  induction r with
  | non => exact .non
  | bl b => exact .bl b
  | int i => exact .int i
  | str x => exact .str x
  | ty n => exact .ty n
  | cl c => exact .cl c
  | ref _ => cases h
  | kdct a b => exact .kdct a b
  | tup hf l _ ih => exact .tup hf l fun i v d a b => ih i v d a b (nrL_get (by simpa [D.nr] using h) b)
  | ktup hf l _ ih => exact .ktup hf l fun i v d a b => ih i v d a b (nrL_get (by simpa [D.nr] using h) b)
  | lst hf l _ ih => exact .lst hf l fun i v d a b => ih i v d a b (nrL_get (by simpa [D.nr] using h) b)
  | dk hf l k _ ih => exact .dk hf l k fun i v d a b => ih i v d a b (nrK_get (by simpa [D.nr] using h) b)
  | dt hf l k _ ih => exact .dt hf l k fun i v d a b => ih i v d a b (nrK_get (by simpa [D.nr] using h) b)
  | ins hf l k _ ih => exact .ins hf l k fun i v d a b => ih i v d a b (nrF_get (by simpa [D.nr] using h) b)
theorem repL_nr {vs : List V} {ds : List D} (r : RepL M F m vs ds) (h : nrL ds = true) : RepL M F m' vs ds := ⟨r.1, fun i v d a b => rep_nr (r.2 i v d a b) (nrL_get h b)⟩
theorem frs_nr {vs : List (Str × V)} {fs : List (Tx × D)} (r : At (FR M F m) vs fs) (h : nrF fs = true) : At (FR M F m') vs fs := ⟨r.1, fun i v d a b => ⟨(r.2 i v d a b).1, rep_nr (r.2 i v d a b).2 (nrF_get h b)⟩⟩
theorem cont_nr {d : D} {u : HO} (c : Cont M F m d u) (h : okCell d = true) : Cont M F m' d u := by
  cases d <;> cases u <;> first | exact c.elim | skip
  · exact c
  · exact repL_nr c (by simpa [okCell, D.nr] using h)
  · exact ⟨c.1, ⟨c.2.1, fun i v d a b => ⟨(c.2.2 i v d a b).1, rep_nr (c.2.2 i v d a b).2 (nrK_get (by simpa [okCell, D.nr] using h) b)⟩⟩⟩
  · exact ⟨c.1, ⟨c.2.1, fun i v d a b => ⟨(c.2.2 i v d a b).1, rep_nr (c.2.2 i v d a b).2 (nrK_get (by simpa [okCell, D.nr] using h) b)⟩⟩⟩
  · exact ⟨c.1, frs_nr c.2 (by simpa [okCell, D.nr] using h)⟩
end
/-! ### a world without cells, and back -/
section
variable {M : Mx} {w w2 : Wd} {H H2 : Hp}
abbrev Wd.bare (w : Wd) : Wd := ⟨w.F, [], []⟩
theorem wok_bare (k : WOk M w H) : WOk M w.bare H := ⟨k.le, rfl, fun i d h => by simp at h, fun i j a x => by obtain ⟨⟨d, h⟩, _⟩ := x; simp at h⟩
theorem bare_live {i : Nat} {a : Addr} : ¬ Live w.bare i a := fun ⟨⟨d, h⟩, _⟩ => by simp at h
theorem cell_notup {F : Hp} {m : List Addr} {d : D} {vs : List V} : ¬ Cont M F m d (.tup vs) := fun c => by cases d <;> exact c
theorem bare_back (k : WOk M w H) (k2 : WOk M w2 H2) (e : Ext w.bare H w2 H2) : Ext w H { w with F := w2.F } H2 ∧ WOk M { w with F := w2.F } H2 := by
  have nf : ∀ i a, Live w i a → w2.F a = none := fun i a l => by
    obtain ⟨⟨d, h⟩, ha⟩ := l
    obtain ⟨a', u, h1, h2, h3, h4⟩ := k.al i d h
    rw [ha] at h1; cases h1
    cases q : w2.F a with
    | none => rfl
    | some o =>
      rcases e.fr a o q with z | z | ⟨vs, z⟩ | ⟨j, z⟩
      · have z : w.F a = some o := z
        rw [h2] at z; cases z
      · rw [h3] at z; cases z
      · rw [h3] at z; cases z; exact absurd h4 cell_notup
      · exact absurd z bare_live
  refine ⟨⟨e.ff, fun _ _ h => h, fun a o h _ => e.hh a o h fun i => bare_live, e.nn, fun a o h => ?_, fun i a l => .inl ⟨i, l⟩⟩, k.keep (w' := { w with F := w2.F }) e.ff rfl rfl k2.le (fun i a o l h => e.hh a o h fun i => bare_live) nf⟩
  rcases e.fr a o h with z | z | z | ⟨j, z⟩
  · exact .inl z
  · exact .inr (.inl z)
  · exact .inr (.inr (.inl z))
  · exact absurd z bare_live
theorem rr_back {v : V} {f : Bool} {d : D} (k : WOk M w H) (k2 : WOk M w2 H2) (e : Ext w.bare H w2 H2) (h : d.nr = true) (r : RR M w.bare H w2 H2 v f d) : RR M w H { w with F := w2.F } H2 v f d := by
  cases f with
  | false => exact rep_nr r h
  | true =>
    obtain ⟨b, p, u, rfl, hp, fp, nl, h0, c⟩ := r
    have hn : H p = none := by
      rcases h0 with h0 | ⟨j, h0⟩
      · exact h0
      · exact absurd h0 bare_live
    refine ⟨b, p, u, rfl, hp, fp, fun i l => ?_, .inl hn, cont_nr c (by cases d <;> first | exact h | cases b)⟩
    obtain ⟨⟨d', h'⟩, ha⟩ := l
    obtain ⟨a', u', h1, h2, h3, h4⟩ := k.al i d' h'
    have ha : w.m[i]? = some p := ha
    rw [ha] at h1; cases h1
    rw [hn] at h3; cases h3
theorem pl_back {dd : Option Addr} {pl : Pl} (h : nrPl pl = true) (r : PlRep M w2 H2 dd pl) : PlRep M { w with F := w2.F } H2 dd pl := by
  cases pl with
  | none => exact r
  | some fs =>
    obtain ⟨dx, vs, e1, e2, e3⟩ := r
    exact ⟨dx, vs, e1, e2, frs_nr e3 h⟩
end
/-! ### defs by their contracts -/
structure FnC (M : Mx) (x : Str) (ps : List Str) (k : Nat) (C : Con) : Prop where
  ex : ∃ f fd, FnOk M.P M.w M.K M.mg M.base (L2.CX M.P M.w) k f fd ps (spC M C) ∧ M.mg x = some (.ref f) ∧ PySem.W.keepIn M.K (.ref f) = true ∧ Binds M.K fd ps []
section
variable {X : Cx} {M : Mx} {N : List Str} {sc : Scope} {k k' : Nat} {W : WX} {G : Gx} {ρ : Env} {hc : Hc} {P : D → Hc → Prop} {PF : Bool → D → Hc → Prop} {B : Bool → Hc → Prop} {a b c e : Expr} {es : List Expr} {x m : Str} {pos p apos : Pos} {ps : List Str} {C : Con}
theorem fx_call (F : FnC M x ps k' C) (hb : Bx X M N sc k G.W) (hk : k' ≤ k) (hg : sc.names.lookup x = some .globalImplicit) (hdb : (x == ("__debug__" : Str)) = false) (he : starEach (e :: es) X.env = (false, eval e X.env) :: starEach es X.env) (hpl : (backTo pos (starEach es X.env)).any (·.1) = false)
    (h : AX X M G (e :: es) ρ hc fun ds h' => nrL ds = true ∧ C ds [] (fun f d _ => d.nr = true ∧ PF f d h') fun c pl _ => nrPl pl = true ∧ G.PX c pl ρ h') : FX X M G (.Call (.Name x p) (e :: es) [] pos) ρ hc PF := by
  obtain ⟨f, fd, F1, F2, F3, F4⟩ := F.ex
  rw [← hb.hP, ← hb.hw, ← hb.hK, ← hb.hmg, ← hb.hbase] at F1
  rw [← hb.hmg] at F2
  rw [← hb.hK] at F3 F4
  refine .of (pe_callS F1 (hb.room.mono hk) (hb.gl hg) F2 F3 F4 (fun σ => passAt hb.tk σ) pa_rd hdb he hpl) fun σ w H Q eh wk sk xc q => ?_
  refine h σ w H _ eh wk sk xc fun ds vs w1 H1 pd e1 k1 r1 => ⟨w1.bare, ds, _, _, wok_bare k1, repL_nr r1 pd.1, pd.2, fun f d v w2 H2 hp e2 k2 r2 => ?_, fun c pl dd w2 H2 hp e2 k2 r2 => ?_⟩
  · obtain ⟨e3, k3⟩ := bare_back k1 k2 e2
    exact q f d v { w1 with F := w2.F } H2 hp.2 (e1.trans e3) k3 ((rr_back k1 k2 e2 hp.1 r2).back e1)
  · obtain ⟨e3, k3⟩ := bare_back k1 k2 e2
    exact xc c pl dd { w1 with F := w2.F } H2 hp.2 (e1.trans e3) k3 (pl_back hp.1 r2)
theorem fx_call0 (F : FnC M x ps k' C) (hb : Bx X M N sc k G.W) (hk : k' ≤ k) (hg : sc.names.lookup x = some .globalImplicit) (hdb : (x == ("__debug__" : Str)) = false)
    (h : C [] [] (fun f d _ => d.nr = true ∧ PF f d hc) fun _ _ _ => False) : FX X M G (.Call (.Name x p) [] [] pos) ρ hc PF := by
  obtain ⟨f, fd, F1, F2, F3, F4⟩ := F.ex
  rw [← hb.hP, ← hb.hw, ← hb.hK, ← hb.hmg, ← hb.hbase] at F1
  rw [← hb.hmg] at F2
  rw [← hb.hK] at F3 F4
  refine .of (pe_call0 F1 (hb.room.mono hk) (hb.gl hg) F2 F3 F4 .nil passL hdb) fun σ w H Q eh wk sk xc q => ?_
  refine ⟨w.bare, [], _, _, wok_bare wk, .nil, h, fun f d v w2 H2 hp e2 k2 r2 => ?_, fun _ _ _ _ _ z => z.elim⟩
  obtain ⟨e3, k3⟩ := bare_back wk k2 e2
  exact q f d v { w with F := w2.F } H2 (by show PF f d w.h; rw [eh]; exact hp.2) e3 k3 (rr_back wk k2 e2 hp.1 r2)
/-! ### fields -/
theorem lkF_of {M : Mx} {F : Hp} {m : List Addr} {n : Tx} {d : D} : ∀ {vs : List (Str × V)} {fs : List (Tx × D)}, At (FR M F m) vs fs → lkF fs n = some d → ∃ v, vs.lookup (ts n) = some v ∧ Rep M F m v d
  | vs, [], r, h => by cases h
  | vs, (g, d') :: fs, r, h => by
    obtain ⟨⟨g', v⟩, us, rfl, r1, r2⟩ := r.cons_inv
    obtain ⟨e1, r3⟩ := r1
    dsimp only at e1 r3
    subst e1
    unfold lkF at h
    rw [List.lookup_cons, txBeq_iff] at *
    by_cases q : g = n
    · subst q
      rw [decide_eq_true rfl, if_pos rfl] at h
      cases h
      rw [beq_self_eq_true]
      exact ⟨v, rfl, r3⟩
    · rw [decide_eq_false q, if_neg Bool.false_ne_true] at h
      have : (ts n == ts g) = false := by simpa using fun z => q (ts_inj z).symm
      rw [this]
      exact lkF_of r2 h
theorem fx_fld (hb : Bw X M N sc) (hbase : attributeBase e (ts m') X.env (eval e X.env) = eval e X.env) (h : EX X M G e ρ hc fun d h' => ∃ C fs v, deref h' d = .ins C fs ∧ Cls M.K (M.ca C) ∧ NoAttr M.K (M.ca C) (ts m') ∧ lkF fs m' = some v ∧ P v h') : EX X M G (.Attribute e (ts m') pos) ρ hc P :=
  .of (pe_fld pe_rd hbase) fun σ w H Q eh wk sk xc q => h σ w H _ eh wk sk xc fun d z w1 H1 p e1 k1 r1 => by
    obtain ⟨C, fs, v, hd, c, n, hl, p⟩ := p
    obtain ⟨a, u, rfl, ha, ct⟩ := den_box k1 r1 hd rfl
    cases u <;> first | exact ct.elim | skip
    rename_i C' dx vs
    obtain ⟨rfl, ct⟩ := ct
    obtain ⟨v', hv, rv⟩ := lkF_of ct hl
    exact ⟨a, _, dx, vs, v', rfl, ha.2 rfl, by rw [hb.hK]; exact c, by rw [hb.hK]; exact n, hv, q v v' w1 H1 p e1 k1 rv⟩
end
end Yl

set_option maxRecDepth 100000
set_option maxHeartbeats 4000000
/-! Y7: slices, what is walked, comprehensions, methods, instances. -/
namespace Yl
open PySem PySem.Spec PyProof.Rows L2
section
variable {X : Cx} {M : Mx} {N : List Str} {sc : Scope} {k k' : Nat} {W : WX} {G : Gx} {ρ : Env} {hc : Hc} {P : D → Hc → Prop} {PF : Bool → D → Hc → Prop} {B : Bool → Hc → Prop} {a b c e : Expr} {es : List Expr} {x m : Str} {pos p apos : Pos} {ps : List Str} {C : Con}
/-! ### slices -/
def tO (X : Cx) : Option Expr → TO
  | none => tNoPart
  | some e => tPart (rdE X e)
theorem po_rd {oe : Option Expr} : PO X oe (tO X oe) := by
  cases oe with
  | none => exact po_none
  | some e => exact po_some pe_rd
def OX (X : Cx) (M : Mx) (G : Gx) (oe : Option Expr) (ρ : Env) (h : Hc) (P : Option Int → Hc → Prop) : Prop := ∀ σ w H (Q : Option Int → Hp → Prop), w.h = h → WOk M w H → SOk M w σ ρ → XC M G w H σ ρ → (∀ i w1 H1, P i w1.h → Ext w H w1 H1 → WOk M w1 H1 → Q i H1) → tO X oe σ H Q
theorem ox_none {P : Option Int → Hc → Prop} (h : P none hc) : OX X M G none ρ hc P := fun σ w H Q eh wk sk xc q => q none w H (by rw [eh]; exact h) Ext.refl wk
theorem ox_some {P : Option Int → Hc → Prop} (h : EX X M G e ρ hc fun d h' => ∃ i, d = .int i ∧ P (some i) h') : OX X M G (some e) ρ hc P := fun σ w H Q eh wk sk xc q => h σ w H _ eh wk sk xc fun d v w1 H1 p e1 k1 r1 => by
  obtain ⟨i, rfl, p⟩ := p
  exact ⟨i, r1.int_inv, q _ w1 H1 p e1 k1⟩
theorem slr_or {r r' : V → Option Int → Option Int → Hp → VK → Prop} (h : SlR X r) (h' : SlR X r') : SlR X (fun x lo hi H Q => r x lo hi H Q ∨ r' x lo hi H Q) := h.or h'
theorem cut_cut {n d : Nat} {o : Option Int} : cutN n d o = HT.sIx n d o := by
  cases o <;> rfl
theorem cutV_of {F : Hp} {m : List Addr} {vs : List V} {ds : List D} {lo hi : Option Int} (r : RepL M F m vs ds) : RepL M F m (cutV vs lo hi) (cutT ds lo hi) := by
  unfold cutV cutT
  rw [r.1, cut_cut, cut_cut]
  exact (r.drop _).take _
theorem cutS_of {s : Tx} {lo hi : Option Int} : cutS (ts s) lo hi = ts (cutT s lo hi) := by
  unfold cutS cutT
  rw [cut_cut, cut_cut, ts_list, ts_len]; rfl
def rCut (K : PySem.W.Frag) : V → Option Int → Option Int → Hp → VK → Prop := fun x lo hi H Q => rSlS x lo hi H Q ∨ rSlL K x lo hi H Q ∨ rSlA K x lo hi H Q
theorem fx_slice {lo hi : Option Expr} {p2 : Pos} (hb : Bw X M N sc) (h : EX X M G e ρ hc fun x h1 => OX X M G lo ρ h1 fun l h2 => OX X M G hi ρ h2 fun u h3 => ∃ f d, cutD (deref h3 x) l u = some (f, d) ∧ PF f d h3) : FX X M G (.Subscript e (.Slice lo hi none p2) pos) ρ hc PF :=
  .of (pe_slice (r := rCut X.K) (slr_or sl_str (slr_or sl_list sl_tupA)) pe_rd po_rd po_rd) fun σ w H Q eh wk sk xc q => h σ w H _ eh wk sk xc fun x v w1 H1 p1 e1 k1 r1 => p1 σ w1 H1 _ rfl k1 (sk.ext e1) (xc.ext e1) fun l w2 H2 p2 e2 k2 => p2 σ w2 H2 _ rfl k2 (sk.ext (e1.trans e2)) (xc.ext (e1.trans e2)) fun u w3 H3 p3 e3 k3 => by
    obtain ⟨f, d, he, hp⟩ := p3
    have r3 := r1.mono (fun a o z => e3.ff a o (e2.ff a o z)) fun i a z => e3.mm i a (e2.mm i a z)
    have fin := fin_of ((e1.trans e2).trans e3) hp q
    rw [hb.hK]
    unfold cutD at he
    split at he
    · rename_i s hd
      split at he
      · rename_i hl
        cases he
        exact .inl ⟨ts s, den_str k3 r3 hd, by rw [ts_len, ← lim_eq]; exact hl, by rw [cutS_of]; exact fin.here k3 (.str _)⟩
      · cases he
    · rename_i xs hd
      cases he
      obtain ⟨a, vs, rfl, ha, rl⟩ := den_lst k3 r3 hd
      exact .inr (.inl ⟨a, vs, rfl, .inl (.inl ha), fun p hp => fin.box k3 rfl hp (cutV_of rl)⟩)
    · rename_i xs hd
      cases he
      obtain ⟨a, vs, rfl, fa, ha, rl⟩ := den_tup k3 r3 hd
      refine .inr (.inr ⟨a, vs, rfl, sqT_of k3.le fa, fun h => ?_, fun _ p hp => fin.tup k3 hp (cutV_of rl)⟩)
      have ec : cutT xs l u = xs := by
        unfold cutT
        rw [cut_cut, cut_cut, ← rl.1, h.1, h.2, List.drop_zero, Nat.sub_zero, rl.1, List.take_length]
      rw [ec] at fin
      exact fin.here k3 (.tup fa rl.1 rl.2)
    · cases he
/-! ### what is walked -/
theorem it_lst {w : Wd} {a : Addr} {vs : List V} {ds : List D} (h : w.F a = some (.lst vs)) (r : RepL M w.F w.m vs ds) : ItOk M (Itl M.K a) w ds where
  go := fun i H le hi => ⟨vs, vs[i]'(by rw [r.1]; exact hi), sqL_of le h, by simp⟩
  stop := fun H le => ⟨vs, sqL_of le h, Nat.le_of_eq r.1⟩
  yld := fun i w1 H x H' d s p k y hd => by
    obtain ⟨e, y⟩ := y
    subst e
    obtain ⟨z, hz, rz⟩ := r.get hd
    have := y vs (sqL_of k.le (s _ _ h))
    rw [hz] at this
    cases this
    exact ⟨w1, rfl, Ext.refl, k, rz.mono s p⟩
theorem it_tup {w : Wd} {a : Addr} {vs : List V} {ds : List D} (h : ∀ F H, Sub w.F F → Le F H → SqT M.K H a vs) (r : RepL M w.F w.m vs ds) : ItOk M (Itt M.K a) w ds where
  go := fun i H le hi => ⟨vs, vs[i]'(by rw [r.1]; exact hi), h _ H (fun _ _ z => z) le, by simp⟩
  stop := fun H le => ⟨vs, h _ H (fun _ _ z => z) le, Nat.le_of_eq r.1⟩
  yld := fun i w1 H x H' d s p k y hd => by
    obtain ⟨e, y⟩ := y
    subst e
    obtain ⟨z, hz, rz⟩ := r.get hd
    have := y vs (h _ _ s k.le)
    rw [hz] at this
    cases this
    exact ⟨w1, rfl, Ext.refl, k, rz.mono s p⟩
theorem it_str {w : Wd} {z : Tx} : ItOk M (Its (ts z)) w (signs z) where
  go := fun i H _ hi => by show i < (ts z).cps.size; simpa [signs, ts] using hi
  stop := fun H _ => Nat.le_of_eq (by simp [signs, ts])
  yld := fun i w1 H x H' d s p k y hd => by
    obtain ⟨rfl, c, hc, rfl⟩ := y
    refine ⟨w1, rfl, Ext.refl, k, ?_⟩
    unfold signs at hd
    rw [List.getElem?_map] at hd
    have : z[i]? = some c := by rw [← Array.getElem?_toList, ts_list] at hc; exact hc
    rw [this] at hd
    cases hd
    exact .str [c]
theorem rangeU_len : ∀ (n : Nat) (lo : Int), (rangeU lo n).length = n
  | 0, _ => rfl
  | n + 1, lo => by simp [rangeU, rangeU_len n]
theorem rangeU_get : ∀ (n : Nat) (lo : Int) (i : Nat), i < n → (rangeU lo n)[i]? = some (.int (lo + i))
  | 0, _, _, h => by omega
  | n + 1, lo, 0, _ => by simp [rangeU]
  | n + 1, lo, i + 1, h => by
    rw [rangeU, List.getElem?_cons_succ, rangeU_get n (lo + 1) i (by omega)]
    congr 2
    omega
theorem it_rng {w : Wd} {lo : Int} {n : Nat} : ItOk M (Itr lo n) w (rangeU lo n) where
  go := fun i H _ hi => by show i < n; rw [rangeU_len] at hi; exact hi
  stop := fun H _ => by rw [rangeU_len]; exact Nat.le_refl _
  yld := fun i w1 H x H' d s p k y hd => by
    obtain ⟨rfl, rfl⟩ := y
    have hi : i < n := by
      have := (List.getElem?_eq_some_iff.mp hd).1
      rw [rangeU_len] at this; exact this
    rw [rangeU_get n lo i hi] at hd
    cases hd
    exact ⟨w1, rfl, Ext.refl, k, .int _⟩
variable {tg : Expr} {L : List D → Hc → Prop}
theorem ix_lst (hb : Bw X M N sc) (h : EX X M G e ρ hc fun d h' => ∃ ds, d = .lst ds ∧ L ds h') : IX X M G tg e ρ hc L := ⟨_, pi_list pe_rd, fun σ w H R eh wk sk xc q => h σ w H _ eh wk sk xc fun d v w1 H1 p e1 k1 r1 => by
  obtain ⟨ds, rfl, p⟩ := p
  obtain ⟨a, u, rfl, fa, c⟩ := rep_unbox rfl r1
  cases u <;> first | exact c.elim | skip
  rw [hb.hK]
  exact ⟨a, rfl, ⟨_, sqL_of k1.le fa⟩, q ds _ w1 H1 p e1 k1 (it_lst fa c)⟩⟩
theorem ix_tup (hb : Bw X M N sc) (h : EX X M G e ρ hc fun d h' => ∃ ds, (d = .tup ds ∨ d = .ktup ds) ∧ L ds h') : IX X M G tg e ρ hc L := ⟨_, pi_tup pe_rd, fun σ w H R eh wk sk xc q => h σ w H _ eh wk sk xc fun d v w1 H1 p e1 k1 r1 => by
  rw [hb.hK]
  obtain ⟨ds, rfl | rfl, p⟩ := p
  · obtain ⟨a, vs, rfl, ha, rl⟩ := r1.tup_inv
    exact ⟨a, rfl, ⟨vs, sqT_of k1.le ha⟩, q ds _ w1 H1 p e1 k1 (it_tup (fun F H s le => sqT_of le (s _ _ ha)) rl)⟩
  · obtain ⟨a, vs, rfl, ha, rl⟩ := r1.ktup_inv
    exact ⟨a, rfl, ⟨vs, SqT.k ha⟩, q ds _ w1 H1 p e1 k1 (it_tup (fun F H s le => SqT.k ha) rl)⟩⟩
theorem ix_str (h : EX X M G e ρ hc fun d h' => ∃ z, d = .str z ∧ L (signs z) h') : IX X M G tg e ρ hc L := ⟨_, pi_str pe_rd, fun σ w H R eh wk sk xc q => h σ w H _ eh wk sk xc fun d v w1 H1 p e1 k1 r1 => by
  obtain ⟨z, rfl, p⟩ := p
  exact ⟨ts z, r1.str_inv, q _ _ w1 H1 p e1 k1 it_str⟩⟩
theorem ix_range1 (hb : Bw X M N sc) (hm : M.mg "range" = none) (hg : sc.names.lookup ("range" : Str) = some .globalImplicit) (hs : starEach [a] X.env = [(false, eval a X.env)]) (h : AX X M G [a] ρ hc fun ds h' => ∃ j : Int, ds = [.int j] ∧ small j = true ∧ L (rangeU 0 j.toNat) h') : IX X M G tg (.Call (.Name "range" p) [a] [] pos) ρ hc L :=
  ⟨_, pi_range1 (hb.gl hg) (by rw [hb.hmg]; exact hm) pa_rd hs, fun σ w H R eh wk sk xc q => h σ w H _ eh wk sk xc fun ds vs w1 H1 pd e1 k1 r1 => by
    obtain ⟨j, rfl, hj, pd⟩ := pd
    obtain ⟨v, vs', rfl, r2, r3⟩ := r1.cons_inv
    obtain rfl := r3.nil_inv
    simp only [small, Bool.and_eq_true_iff, decide_eq_true_eq] at hj
    exact ⟨j, by rw [r2.int_inv], by omega, by omega, q _ _ w1 H1 pd e1 k1 it_rng⟩⟩
theorem ix_range2 (hb : Bw X M N sc) (hm : M.mg "range" = none) (hg : sc.names.lookup ("range" : Str) = some .globalImplicit) (hs : starEach [a, b] X.env = [(false, eval a X.env), (false, eval b X.env)]) (hs2 : starEach [b] X.env = [(false, eval b X.env)])
    (h : AX X M G [a, b] ρ hc fun ds h' => ∃ i j : Int, ds = [.int i, .int j] ∧ small i = true ∧ small j = true ∧ L (rangeU i (j - i).toNat) h') : IX X M G tg (.Call (.Name "range" p) [a, b] [] pos) ρ hc L :=
  ⟨_, pi_range2 (hb.gl hg) (by rw [hb.hmg]; exact hm) pa_rd hs hs2, fun σ w H R eh wk sk xc q => h σ w H _ eh wk sk xc fun ds vs w1 H1 pd e1 k1 r1 => by
    obtain ⟨i, j, rfl, hi, hj, pd⟩ := pd
    obtain ⟨v, vs', rfl, r2, r3⟩ := r1.cons_inv
    obtain ⟨v', vs'', rfl, r4, r5⟩ := r3.cons_inv
    obtain rfl := r5.nil_inv
    simp only [small, Bool.and_eq_true_iff, decide_eq_true_eq] at hi hj
    exact ⟨i, j, by rw [r2.int_inv, r4.int_inv], ⟨by omega, by omega, by omega, by omega⟩, q _ _ w1 H1 pd e1 k1 it_rng⟩⟩
theorem zipD_get : ∀ (x y : Tx) (i : Nat) (d : D), (zipD (signs x) (signs y))[i]? = some d → ∃ c e, x[i]? = some c ∧ y[i]? = some e ∧ d = .tup [.str [c], .str [e]]
  | [], _, _, _, h => by simp [signs, zipD] at h
  | a :: x, [], _, _, h => by simp [signs, zipD] at h
  | a :: x, b :: y, 0, d, h => by
    simp [signs, zipD] at h
    exact ⟨a, b, rfl, rfl, h.symm⟩
  | a :: x, b :: y, i + 1, d, h => by
    have h : (zipD (signs x) (signs y))[i]? = some d := h
    obtain ⟨c, e, h1, h2, h3⟩ := zipD_get x y i d h
    exact ⟨c, e, h1, h2, h3⟩
theorem zipD_len : ∀ (x y : Tx), (zipD (signs x) (signs y)).length = min x.length y.length
  | [], y => by simp [signs, zipD]
  | a :: x, [] => by simp [signs, zipD]
  | a :: x, b :: y => by
    show (zipD (signs x) (signs y)).length + 1 = _
    rw [zipD_len x y]
    simp only [List.length_cons]
    omega
theorem it_zip {w : Wd} {x y : Tx} : ItOk M (Itzs (ts x) (ts y)) w (zipD (signs x) (signs y)) where
  go := fun i H _ hi => by
    rw [zipD_len] at hi
    have h1 : (ts x).cps.size = x.length := by simp [ts]
    have h2 : (ts y).cps.size = y.length := by simp [ts]
    exact ⟨by omega, by omega⟩
  stop := fun H _ => by
    have h1 : (ts x).cps.size = x.length := by simp [ts]
    have h2 : (ts y).cps.size = y.length := by simp [ts]
    rw [zipD_len]
    refine ⟨by omega, by omega, by omega⟩
  yld := fun i w1 H z H' d s p k yy hd => by
    obtain ⟨T, c, e, rfl, hT, rfl, h1, h2⟩ := yy
    obtain ⟨c', e', h3, h4, rfl⟩ := zipD_get x y i d hd
    have h1 : x[i]? = some c := by rw [← Array.getElem?_toList, ts_list] at h1; exact h1
    have h2 : y[i]? = some e := by rw [← Array.getElem?_toList, ts_list] at h2; exact h2
    rw [h1] at h3; rw [h2] at h4; cases h3; cases h4
    obtain ⟨e1, k1⟩ := ext_lay (o := .tup [.str ⟨#[c]⟩, .str ⟨#[e]⟩]) k hT
    have fp := le_none k.le hT
    have nl : ∀ i, ¬ Live w1 i T := fun i l => by
      obtain ⟨u, h, _⟩ := live_some k l
      rw [hT] at h; cases h
    obtain ⟨e2, k2⟩ := ext_fz k1 upd_same fp nl (.inl hT) e1
    have rl : RepL M (upd w1.F T (.tup [.str ⟨#[c]⟩, .str ⟨#[e]⟩])) w1.m [.str ⟨#[c]⟩, .str ⟨#[e]⟩] [.str [c], .str [e]] := .cons (.str [c]) (.cons (.str [e]) .nil)
    exact ⟨w1.fz T _, rfl, e2, k2, .tup upd_same rl.1 rl.2⟩
theorem ix_zip {elts : List Expr} {kk : Nat} {tpos : Pos} (hb : Bw X M N sc) (hm : M.mg "zip" = none) (hg : sc.names.lookup ("zip" : Str) = some .globalImplicit) (hs : starEach [a, b] X.env = (false, eval a X.env) :: starEach [b] X.env) (hpl : (backTo pos (starEach [b] X.env)).any (·.1) = false)
    (h : AX X M G [a, b] ρ hc fun ds h' => ∃ x y, ds = [.str x, .str y] ∧ L (zipD (signs x) (signs y)) h') : IX X M G (.Tuple elts kk tpos) (.Call (.Name "zip" p) [a, b] [] pos) ρ hc L :=
  ⟨_, pi_zips (hb.gl hg) (by rw [hb.hmg]; exact hm) pa_rd hs hpl, fun σ w H R eh wk sk xc q => h σ w H _ eh wk sk xc fun ds vs w1 H1 pd e1 k1 r1 => by
    obtain ⟨x, y, rfl, pd⟩ := pd
    obtain ⟨v, vs', rfl, r2, r3⟩ := r1.cons_inv
    obtain ⟨v', vs'', rfl, r4, r5⟩ := r3.cons_inv
    obtain rfl := r5.nil_inv
    exact ⟨ts x, ts y, by rw [r2.str_inv, r4.str_inv], q _ _ w1 H1 pd e1 k1 it_zip⟩⟩
end
end Yl

set_option maxRecDepth 100000
set_option maxHeartbeats 4000000
/-! Y8: comprehensions. -/
namespace Yl
open PySem PySem.Spec PyProof.Rows L2
section
variable {M : Mx} {w w1 : Wd} {H H1 : Hp} {σ : St} {ρ : Env}
/-- a thing that only the walk knows is written -/
theorem wok_grow (k : WOk M w H) {p : Addr} {o : HO} (fp : w.F p = none) (nl : ∀ i, ¬ Live w i p) : WOk M w (upd H p o) :=
  k.keep (fun _ _ h => h) rfl rfl (fun a u h => (k.le a u h).upd (ne_of_none h fp)) (fun i a u l h => by rw [upd_ne (fun q => nl i (by rw [← q]; exact l))]; exact h) fun i a l => (live_some k l).choose_spec.2
theorem ext_grow (e : Ext w1 H1 w H) {p : Addr} {o : HO} (hp : H1 p = none) : Ext w1 H1 w (upd H p o) :=
  ⟨e.ff, e.mm, fun a u h n => by rw [upd_ne (ne_of_none h hp)]; exact e.hh a u h n, fun a h => by
    by_cases q : a = p
    · rw [q]; exact hp
    · rw [upd_ne q] at h; exact e.nn a h, e.fr, e.cl⟩
/-- what only the walk knows stays so -/
structure Mine (w : Wd) (H : Hp) (p : Addr) (o : HO) : Prop where
  at_ : H p = some o
  fp : w.F p = none
  nl : ∀ i, ¬ Live w i p
theorem Mine.ext {p : Addr} {o : HO} (m : Mine w H p o) (nt : ∀ vs, o ≠ .tup vs) (e : Ext w H w1 H1) : Mine w1 H1 p o where
  at_ := e.hh p o m.at_ m.nl
  fp := by
    cases q : w1.F p with
    | none => rfl
    | some u =>
      rcases e.fr p u q with z | z | ⟨vs, z⟩ | ⟨i, z⟩
      · rw [m.fp] at z; cases z
      · rw [m.at_] at z; cases z
      · rw [m.at_] at z; cases z; exact absurd rfl (nt vs)
      · exact absurd z (m.nl i)
  nl := fun i l => by
    rcases e.cl i p l with ⟨j, z⟩ | z
    · exact m.nl j z
    · rw [m.at_] at z; cases z
theorem Mine.new {p : Addr} {o : HO} (k : WOk M w H) (hp : H p = none) : Mine w (upd H p o) p o := ⟨upd_same, le_none k.le hp, fun i l => by
  obtain ⟨u, h, _⟩ := live_some k l
  rw [hp] at h; cases h⟩
theorem Mine.put {p : Addr} {o o' : HO} (m : Mine w H p o) : Mine w (upd H p o') p o' := ⟨upd_same, m.fp, m.nl⟩
theorem SOk.wiped (s : SOk M w σ ρ) : ∀ vs, SOk M w (wipe σ vs) (Yl.unset ρ vs)
  | [] => s
  | v :: vs => (s.wiped vs).unset v
theorem wipe_get (σ : St) (vs : List Nat) (j : Nat) : (wipe σ vs)[j]? = if j ∈ vs then (if j < σ.length then some none else none) else σ[j]? := by
  induction vs with
  | nil => simp [wipe]
  | cons v vs ih =>
    unfold wipe
    by_cases h : v = j
    · subst h
      rw [List.getElem?_set]
      simp [wipe_length]
    · rw [List.getElem?_set_ne h, ih]
      have : ¬ j = v := fun z => h z.symm
      simp [this]
theorem wipe_less {T vs : List Nat} {σ' : St} (hT : ∀ j ∈ T, j ∈ vs) (l : Less T (wipe σ vs) σ') : wipe σ' vs = wipe σ vs := by
  apply List.ext_getElem?
  intro j
  rw [wipe_get, wipe_get]
  have hl : σ'.length = σ.length := by rw [l.1, wipe_length]
  by_cases hj : j ∈ vs
  · rw [if_pos hj, if_pos hj, hl]
  · rw [if_neg hj, if_neg hj, l.2 j (fun z => hj (hT j z)), wipe_get, if_neg hj]
end
section
variable {X : Cx} {M : Mx} {N : List Str} {sc : Scope} {k k' : Nat} {W : WX} {G : Gx} {ρ : Env} {hc : Hc} {P : D → Hc → Prop} {PF : Bool → D → Hc → Prop} {B : Bool → Hc → Prop} {a b c e tg : Expr} {es : List Expr} {x m : Str} {pos p apos : Pos}
def Blk (X : Cx) (scope : Scope) (X' : Cx) : Prop := ∃ s H C cl fp, X' = X.blk s H scope (compEnvC scope cl C X.env) fp
theorem Blk.bx {X' : Cx} {scope : Scope} (h : Blk X scope X') (hb : Bx X M N sc k W) : Bx X' M N (relS scope sc) k (fun _ _ _ _ => False) := by
  obtain ⟨s, H, C, cl, fp, rfl⟩ := h
  exact ⟨⟨hb.hN, hb.nd, by rw [← hb.hsc]; rfl, hb.hP, hb.hw, hb.hK, hb.hmg, hb.hbase⟩, hb.calm, PassesOwn.never, hb.room, takes0⟩
abbrev InB (X : Cx) (M : Mx) (N : List Str) (scope sc : Scope) (k : Nat) (S : Cx → Prop) : Prop := ∀ X', Blk X scope X' → Bx X' M N (relS scope sc) k (fun _ _ _ _ => False) → S X'
abbrev Gn : Gx := ⟨fun _ _ _ _ => False, fun _ _ _ _ => False⟩
theorem xc_in {w : Wd} {H : Hp} {σ : St} : XC M Gn w H σ ρ := fun _ _ _ _ _ z => z.elim
def rdI (X : Cx) (ifs : List Expr) : TT := fun σ H Q => ∀ pins s, Inv X pins σ H s → wpAny (model X.prog X.w) X.A (forIn ifs true fun c r => if r = true then do let ok ← isTrue c X.env (eval c X.env); pure (ForInStep.yield ok) else pure (ForInStep.yield r)) (TP X pins σ Q) X.xe s
def IfX (X : Cx) (M : Mx) (ifs : List Expr) (ρ : Env) (h : Hc) (B : Bool → Hc → Prop) : Prop := TV M Gn (rdI X ifs) ρ h B
theorem if_nil (h : B true hc) : IfX X M [] ρ hc B := fun σ w H Q eh wk sk xc q pins s I => pts_nil.run pins s σ H Q I (q true w H (by rw [eh]; exact h) Ext.refl wk)
theorem if_one (h : TX X M Gn c ρ hc B) : IfX X M [c] ρ hc B := fun σ w H Q eh wk sk xc q pins s I => (pts_one pt_rd).run pins s σ H Q I (h σ w H Q eh wk sk xc q)
/-- [elt for tg in iter if ..]: I by what has been taken and what stands in the list -/
theorem fx_lc {T : List Nat} {elt iter : Expr} {ifs : List Expr} {scope : Scope} (own : List (Str × Nat)) (I : List D → Nat → List D → Hc → Prop) (hb : Bx X M N sc k G.W) (ok : BlkOk N sc scope own) (hT : ∀ j ∈ T, j ∈ own.map (·.2)) (hs : ∀ x, foldedSetIterable iter X.env x = pure x)
    (h : IX X M G tg iter ρ hc fun ds h0 => ds.length ≤ sizeLine ∧ I ds 0 [] h0 ∧ (∀ (i : Nat) d acc h', ds[i]? = some d → I ds i acc h' → InB X M N scope sc k fun X' => GX X' M T tg d (unset ρ (own.map (·.2))) fun ρ2 => InB X M N scope sc k fun X' => IfX X' M ifs ρ2 h' fun b h2 => (b = true → InB X M N scope sc k fun X' => EX X' M Gn elt ρ2 h2 fun y h3 => I ds (i + 1) (acc ++ [y]) h3) ∧ (b = false → I ds (i + 1) acc h2)) ∧
      ∀ acc h', I ds ds.length acc h' → PF true (.lst acc) h') : FX X M G (.ListComp elt [⟨tg, iter, ifs, 0⟩] scope pos) ρ hc PF := by
  obtain ⟨wi, hi, iv⟩ := h
  refine .of (pe_lc (own := own) (g := fun v σ H Q => ∀ X', Blk X scope X' → rdG X' tg v σ H Q) (tt := fun σ H Q => ∀ X', Blk X scope X' → rdI X' ifs σ H Q) (te := fun σ H Q => ∀ X', Blk X scope X' → rdE X' elt σ H Q)
    hb.calm (by rw [hb.hN]; exact hb.nd) hi (by rw [hb.hN, hb.hsc]; exact ok) (fun s H C cl fp => ⟨fun pins s' σ H v u Q I r q => q _ ⟨s, _, C, cl, fp, rfl⟩ pins s' u I r⟩) (fun s H C cl fp => ⟨fun pins s' σ H Q I q => q _ ⟨s, _, C, cl, fp, rfl⟩ pins s' I⟩)
    (fun s H C cl fp => ⟨fun pins s' σ H Q I q => q _ ⟨s, _, C, cl, fp, rfl⟩ pins s' I⟩) hs) fun σ w H Q eh wk sk xc q => ?_
  refine iv σ w H _ eh wk sk xc fun ds J w1 H1 pd e1 k1 it => ?_
  obtain ⟨hlen, p0, pt, pe⟩ := pd
  intro Da hD
  refine ⟨fun i m H' => m = ds.length - i ∧ i ≤ ds.length ∧ ∃ w' acc vs, I ds i acc w'.h ∧ acc.length ≤ i ∧ WOk M w' H' ∧ Ext w1 H1 w' H' ∧ Mine w' H' Da (.lst vs) ∧ RepL M w'.F w'.m vs acc, ⟨_, rfl, Nat.zero_le _, w1, [], [], p0, Nat.le_refl _, (ext_lay k1 hD).2, (ext_lay k1 hD).1, Mine.new k1 hD, .nil⟩, ?_⟩
  rintro i m H' ⟨rfl, hi', w', acc, vs, pi, hacc, kk, ee, mn, rl⟩
  have le1 : Le w1.F H' := fun a o z => kk.le a o (ee.ff a o z)
  have nt : ∀ (us : List V) (vs : List V), HO.lst us ≠ .tup vs := fun _ _ z => nomatch z
  by_cases hlt : i < ds.length
  · refine .inr ⟨it.go i H' le1 hlt, fun H2 => i + 1 ≤ ds.length ∧ ∃ w' acc vs, I ds (i + 1) acc w'.h ∧ acc.length ≤ i + 1 ∧ WOk M w' H2 ∧ Ext w1 H1 w' H2 ∧ Mine w' H2 Da (.lst vs) ∧ RepL M w'.F w'.m vs acc, fun H2 ⟨a, b⟩ => ⟨_, by omega, rfl, a, b⟩, fun x H2 y => ?_⟩
    have hd : ds[i]? = some ds[i] := by simp [hlt]
    obtain ⟨w2, eh2, e2, k2, r2⟩ := it.yld i w' H' x H2 _ ee.ff ee.mm kk y hd
    have mn2 := mn.ext (nt vs) e2
    have sk2 := (sk.ext e1).ext (ee.trans e2)
    intro X' bk
    refine pt i _ acc w'.h hd pi X' bk (bk.bx hb) x (wipe σ (own.map (·.2))) w2 H2 _ k2 (sk2.wiped _) r2 fun σ3 ρ3 p3 sk3 l3 => ?_
    refine And.intro (wipe_less hT l3) fun X'' bk' => ?_
    refine p3 X'' bk' (bk'.bx hb) σ3 w2 H2 _ eh2 k2 sk3 xc_in fun b w3 H3 p4 e3 k3 => ?_
    have mn3 := mn2.ext (nt vs) e3
    have e13 := (ee.trans e2).trans e3
    cases b with
    | false =>
      rw [if_neg Bool.false_ne_true]
      exact ⟨hlt, w3, acc, vs, p4.2 rfl, by omega, k3, e13, mn3, RepL.mono (fun a o z => e3.ff _ _ (e2.ff _ _ z)) (fun i a z => e3.mm i a (e2.mm i a z)) rl⟩
    | true =>
      rw [if_pos rfl]
      intro X3 bk3
      refine p4.1 rfl X3 bk3 (bk3.bx hb) σ3 w3 H3 _ rfl k3 (sk3.ext e3) xc_in fun y v w4 H4 p5 e4 k4 r4 => ?_
      have mn4 := mn3.ext (nt vs) e4
      have rl4 : RepL M w4.F w4.m vs acc := RepL.mono (fun a o z => e4.ff _ _ (e3.ff _ _ (e2.ff _ _ z))) (fun i a z => e4.mm i a (e3.mm i a (e2.mm i a z))) rl
      refine ⟨vs, mn4.at_, by rw [rl.1]; omega, hlt, w4, acc ++ [y], vs ++ [v], p5, by simp; omega, wok_grow k4 mn4.fp mn4.nl, ext_grow (e13.trans e4) hD, mn4.put, rl4.append (.cons r4 .nil)⟩
  · have e : i = ds.length := by omega
    subst e
    exact .inl ⟨it.stop H' le1, q true _ _ w' H' (pe acc _ pi) (e1.trans ee) kk ⟨rfl, Da, .lst vs, rfl, mn.at_, mn.fp, mn.nl, .inl (e1.nn Da hD), rl⟩⟩
/-- {k: v for tg in iter}, its keys flat -/
theorem fx_dc {T : List Nat} {kx vx iter : Expr} {scope : Scope} (own : List (Str × Nat)) (I : List D → Nat → List (D × D) → Hc → Prop) (hb : Bx X M N sc k G.W) (ok : BlkOk N sc scope own) (hT : ∀ j ∈ T, j ∈ own.map (·.2)) (hs : ∀ x, foldedSetIterable iter X.env x = pure x)
    (h : IX X M G tg iter ρ hc fun ds h0 => ds.length ≤ sizeLine ∧ I ds 0 [] h0 ∧ (∀ (i : Nat) d acc h', ds[i]? = some d → I ds i acc h' → InB X M N scope sc k fun X' => GX X' M T tg d (unset ρ (own.map (·.2))) fun ρ2 => InB X M N scope sc k fun X' => EX X' M Gn kx ρ2 h' fun y h3 => InB X M N scope sc k fun X' => EX X' M Gn vx ρ2 h3 fun z h4 => flatK y = true ∧ I ds (i + 1) (putD acc y z) h4) ∧
      ∀ acc h', I ds ds.length acc h' → PF true (.dct false acc) h') : FX X M G (.DictComp kx vx [⟨tg, iter, [], 0⟩] scope pos) ρ hc PF := by
  obtain ⟨wi, hi, iv⟩ := h
  refine .of (pe_dc (own := own) (ifs := []) (g := fun v σ H Q => ∀ X', Blk X scope X' → rdG X' tg v σ H Q) (tt := fun σ H Q => ∀ X', Blk X scope X' → rdI X' [] σ H Q) (tk := fun σ H Q => ∀ X', Blk X scope X' → rdE X' kx σ H Q) (tv := fun σ H Q => ∀ X', Blk X scope X' → rdE X' vx σ H Q)
    hb.calm (by rw [hb.hN]; exact hb.nd) hi (by rw [hb.hN, hb.hsc]; exact ok) (fun s H C cl fp => ⟨fun pins s' σ H v u Q I r q => q _ ⟨s, _, C, cl, fp, rfl⟩ pins s' u I r⟩) (fun s H C cl fp => ⟨fun pins s' σ H Q I q => q _ ⟨s, _, C, cl, fp, rfl⟩ pins s' I⟩)
    (fun s H C cl fp => ⟨fun pins s' σ H Q I q => q _ ⟨s, _, C, cl, fp, rfl⟩ pins s' I⟩) (fun s H C cl fp => ⟨fun pins s' σ H Q I q => q _ ⟨s, _, C, cl, fp, rfl⟩ pins s' I⟩) hs) fun σ w H Q eh wk sk xc q => ?_
  refine iv σ w H _ eh wk sk xc fun ds J w1 H1 pd e1 k1 it => ?_
  obtain ⟨hlen, p0, pt, pe⟩ := pd
  intro Da hD
  refine ⟨fun i m H' => m = ds.length - i ∧ i ≤ ds.length ∧ ∃ w' acc vs, I ds i acc w'.h ∧ vs.length ≤ i ∧ WOk M w' H' ∧ Ext w1 H1 w' H' ∧ Mine w' H' Da (.dK vs) ∧ At (KR M w'.F w'.m) vs acc, ⟨_, rfl, Nat.zero_le _, w1, [], [], p0, Nat.le_refl _, (ext_lay k1 hD).2, (ext_lay k1 hD).1, Mine.new k1 hD, .nil⟩, ?_⟩
  rintro i m H' ⟨rfl, hi', w', acc, vs, pi, hacc, kk, ee, mn, rl⟩
  have le1 : Le w1.F H' := fun a o z => kk.le a o (ee.ff a o z)
  have nt : ∀ (us : List (Key × V)) (vs : List V), HO.dK us ≠ .tup vs := fun _ _ z => nomatch z
  by_cases hlt : i < ds.length
  · refine .inr ⟨it.go i H' le1 hlt, fun H2 => i + 1 ≤ ds.length ∧ ∃ w' acc vs, I ds (i + 1) acc w'.h ∧ vs.length ≤ i + 1 ∧ WOk M w' H2 ∧ Ext w1 H1 w' H2 ∧ Mine w' H2 Da (.dK vs) ∧ At (KR M w'.F w'.m) vs acc, fun H2 ⟨a, b⟩ => ⟨_, by omega, rfl, a, b⟩, fun x H2 y => ?_⟩
    have hd : ds[i]? = some ds[i] := by simp [hlt]
    obtain ⟨w2, eh2, e2, k2, r2⟩ := it.yld i w' H' x H2 _ ee.ff ee.mm kk y hd
    have mn2 := mn.ext (nt vs) e2
    have sk2 := (sk.ext e1).ext (ee.trans e2)
    intro X' bk
    refine pt i _ acc w'.h hd pi X' bk (bk.bx hb) x (wipe σ (own.map (·.2))) w2 H2 _ k2 (sk2.wiped _) r2 fun σ3 ρ3 p3 sk3 l3 => ?_
    refine And.intro (wipe_less hT l3) fun X1 bk1 pins s I => pts_nil.run pins s σ3 H2 _ I ?_
    dsimp only [tYes]
    try rw [if_pos rfl]
    intro X2 bk2
    refine p3 X2 bk2 (bk2.bx hb) σ3 w2 H2 _ eh2 k2 sk3 xc_in fun ky kv w3 H3 p4 e3 k3 rk => ?_
    intro X3 bk3
    refine p4 X3 bk3 (bk3.bx hb) σ3 w3 H3 _ rfl k3 (sk3.ext e3) xc_in fun y v w4 H4 p5 e4 k4 r4 => ?_
    obtain ⟨fk, p5⟩ := p5
    have mn4 := (mn2.ext (nt vs) e3).ext (nt vs) e4
    have e14 := ((ee.trans e2).trans e3).trans e4
    obtain ⟨key, rfl, rfl⟩ := key_of rk fk
    have rl4 : At (KR M w4.F w4.m) vs acc := At.mono (fun _ _ z => ⟨z.1, z.2.mono (fun a o z => e4.ff _ _ (e3.ff _ _ (e2.ff _ _ z))) (fun i a z => e4.mm i a (e3.mm i a (e2.mm i a z)))⟩) rl
    have hl := length_putK vs key v
    exact ⟨vs, key, rfl, mn4.at_, by omega, hlt, w4, putD acc (kD key) y, putK vs key v, p5, by omega, wok_grow k4 mn4.fp mn4.nl, ext_grow e14 hD, mn4.put, putD_of eqv_key r4 rl4⟩
  · have e : i = ds.length := by omega
    subst e
    exact .inl ⟨it.stop H' le1, q true _ _ w' H' (pe acc _ pi) (e1.trans ee) kk ⟨rfl, Da, .dK vs, rfl, mn.at_, mn.fp, mn.nl, .inl (e1.nn Da hD), rfl, rl⟩⟩
end
end Yl

set_option maxRecDepth 100000
set_option maxHeartbeats 4000000
/-! Y9: raise, try. -/
namespace Yl
open PySem PySem.Spec PyProof.Rows L2
def veB : List Value := [.type "ValueError", .type "Exception", .type "BaseException", .type "object"]
/-- an own exception class without own __init__ -/
structure ExcT (M : Mx) (C : Nat) (x : Str) : Prop where
  gC : M.mg x = some (.ref (M.ca C))
  q : PySem.W.excIn M.K (M.ca C) veB "ValueError.__new__" = true
  kC : PySem.W.keepIn M.K (.ref (M.ca C)) = true
  s1 : PySem.W.subIn M.K (.ref (M.ca C)) (.type "BaseException") = some true
  s2 : PySem.W.typeIn M.K (.ref (M.ca C)) = some (.type "type")
section
variable {X : Cx} {M : Mx} {N : List Str} {sc : Scope} {k k' : Nat} {W : WX} {G : Gx} {ρ : Env} {hc : Hc} {S : Out → Prop} {a b c e tg : Expr} {es : List Expr} {x m : Str} {pos p apos : Pos} {C : Nat}
theorem pmk_own0 {C : Addr} {bmB : List Value} {B newId initId : String} {x : Str} {p pos : Pos} (F : ExcBaseFacts B newId initId bmB) (q : PySem.W.excIn X.K C bmB newId = true) (gC : X.mg x = some (.ref C)) (kC : PySem.W.keepIn X.K (.ref C) = true) (r : Raises X (.ref C)) (hg : Gl X x)
    (hdb : (x == ("__debug__" : Str)) = false) : PMk X (.Call (.Name x p) [] [] pos) (fun _ H Q => Q (.ref C) none H) := by
  intro pins s σ H Q I h
  refine wpAny_Call_Name_kw (ld_glob I hg gC ?_ hdb)
  refine PySem.W.callWith_K0 I.kIn kC ?_
  obtain ⟨bm, N, nm, qn, bs, hdct, sn, sub, ab, col, dd, k0, k1, k2, k3, k5, mN, hC, hN, hni, T⟩ := exc_obj I.kIn q
  refine wpAny_call_exc_subT F T hC hN hni (fun h' e hm => ?_) (by show 0 ≤ sizeLine; exact Nat.zero_le _)
  exact mk_of I hm r h (I.hok.gone hm.new)
theorem sx_raise0 {p2 : Pos} (hb : Bx X M N sc k G.W) (T : ExcT M C x) (hg : sc.names.lookup x = some .globalImplicit) (hdb : (x == ("__debug__" : Str)) = false) (h : G.PX C none ρ hc) : SX X M G (.Raise (some (.Call (.Name x p) [] [] p2)) none pos) ρ hc S :=
  .of (ps_raise hb.calm hb.tk (pmk_own0 (F.excBase_ValueError) (by rw [hb.hK]; exact T.q) (by rw [hb.hmg]; exact T.gC) (by rw [hb.hK]; exact T.kC) (raises_own (by rw [hb.hK]; exact T.s1) (by rw [hb.hK]; exact T.s2)) (hb.gl hg) hdb)) fun w0 H0 σ w H D eh ex wk sk xc q => xc C none none σ w H ρ (by rw [eh]; exact h) ex wk sk rfl
/-! an own exception class whose __init__ is: self.f = x -/
def spOx (C : Addr) (f : Str) : Sp := fun vs H Q _ => ∃ (a : Addr) (v : V), vs = [.ref a, v] ∧ H a = some (exo a C none) ∧ ∀ dx, H dx = none → dx ≠ a → Q .non (upd (upd H dx (exd dx [(f, v)])) a (exo a C (some dx)))
structure ExcI (M : Mx) (C : Nat) (x : Str) (f : Str) (k1 : Nat) : Prop where
  gC : M.mg x = some (.ref (M.ca C))
  T : OexC M.K (M.ca C)
  ex : ∃ fI fd ps, PySem.W.findIn M.K (.ref (M.ca C)) "__init__" = some (some (.ref fI)) ∧ PySem.W.typeIn M.K (.ref fI) = some (.type "function") ∧ FnOk M.P M.w M.K M.mg M.base (L2.CX M.P M.w) k1 fI fd ps (spOx (M.ca C) f) ∧ Binds M.K fd ps []
theorem sx_raise1 {p2 : Pos} {n : Tx} {k1 : Nat} (hb : Bx X M N sc k G.W) (T : ExcI M C x (ts n) k1) (hk : k1 + 1 ≤ k) (hg : sc.names.lookup x = some .globalImplicit) (hdb : (x == ("__debug__" : Str)) = false) (he : starEach [e] X.env = (false, eval e X.env) :: starEach [] X.env)
    (h : EX X M G e ρ hc fun d h' => G.PX C (some [(n, d)]) ρ h') : SX X M G (.Raise (some (.Call (.Name x p) [e] [] p2)) none pos) ρ hc S := by
  obtain ⟨fI, fd, ps, i1, i2, F1, F2⟩ := T.ex
  rw [← hb.hP, ← hb.hw, ← hb.hK, ← hb.hmg, ← hb.hbase] at F1
  rw [← hb.hK] at F2 i1 i2
  have T1 := T.T
  have gC := T.gC
  rw [← hb.hK] at T1
  rw [← hb.hmg] at gC
  refine .of (ps_raise hb.calm hb.tk (pmk_oex T1 i1 i2 F1 (hb.room.mono hk) F2 .nil (by exact passL) (hb.gl hg) gC (pa_rd (es := [e])) hdb he (by rfl))) fun w0 H0 σ w H D eh ex wk sk xc q => ?_
  have pa : AX X M G [e] ρ hc fun ds h' => ∃ d, ds = [d] ∧ G.PX C (some [(n, d)]) ρ h' := ax_cons he (EX.mono h fun d h' pd => ax_nil ⟨d, rfl, pd⟩)
  refine pa σ w H _ eh wk sk (xc.xc ex sk) fun ds vs w1 H1 pd e1 k1 r1 => ?_
  obtain ⟨d, rfl, pd⟩ := pd
  obtain ⟨v, us, rfl, r2, r3⟩ := r1.cons_inv
  obtain rfl := r3.nil_inv
  refine ⟨by simp, fun a ha => ⟨a, v, rfl, upd_same, fun dx hdx ne => ?_⟩⟩
  have hn : H1 dx = none := by rw [upd_ne ne] at hdx; exact hdx
  refine ⟨rfl, dx, [(ts n, v)], upd_same, by rw [upd_ne ne, upd_same], hn, ?_⟩
  have eq : upd (del (upd (upd (upd H1 a (exo a (M.ca C) none)) dx (exd dx [(ts n, v)])) a (exo a (M.ca C) (some dx))) a) dx (.xd [(ts n, v)]) = upd H1 dx (.xd [(ts n, v)]) := by
    funext b
    by_cases hb1 : b = dx
    · subst hb1; rw [upd_same, upd_same]
    · rw [upd_ne hb1, upd_ne hb1]
      by_cases hb2 : b = a
      · subst hb2; rw [del_same, ha]
      · rw [del_ne hb2, upd_ne hb2, upd_ne hb1, upd_ne hb2]
  rw [eq]
  obtain ⟨e2, k2⟩ := ext_lay (o := .xd [(ts n, v)]) k1 hn
  exact xc C _ (some dx) σ w1 _ ρ pd ((ex.trans e1).trans e2) k2 (sk.ext (e1.trans e2)) ⟨dx, _, rfl, upd_same, .cons ⟨rfl, r2⟩ .nil⟩
/-! ### try -/
/-- where a frame stands -/
structure Frx (X : Cx) : Prop where
  st : X.stack = X.env :: X.outer
  fr : X.env.frame = some X.env.locals
  fn : ∀ x, X.fn x = true
/-- a clause that stores a constant -/
def cstV : D → Option V
  | .non => some .non
  | .bl b => some (.bl b)
  | .int i => some (.int i)
  | .str s => some (.str (ts s))
  | _ => none
theorem cst_rep {F : Hp} {m : List Addr} {d : D} {v : V} (h : cstV d = some v) : Rep M F m v d := by
  cases d <;> cases h
  · exact .non
  · exact .bl _
  · exact .int _
  · exact .str _
/-- what is wished of an error of the body -/
def HandP (S : Out → Prop) (PX : Nat → Pl → Env → Hc → Prop) : List Hd → Nat → Pl → Env → Hc → Prop
  | [], c, pl, ρ, h => PX c pl ρ h
  | .c tb i d :: r, c, pl, ρ, h => ∃ b, tbAt tb c = some b ∧ (b = true → S (.nx (ρ.set i (some d)) h)) ∧ (b = false → HandP S PX r c pl ρ h)
  | .f tb e i n :: r, c, pl, ρ, h => ∃ b, tbAt tb c = some b ∧ (b = true → ∃ fs d, pl = some fs ∧ e < ρ.length ∧ lkF fs n = some d ∧ S (.nx ((ρ.set i (some d)).set e none) h)) ∧ (b = false → HandP S PX r c pl ρ h)
inductive HdOk (X : Cx) (M : Mx) (N : List Str) (sc : Scope) : List Hd → List ExceptHandler → Prop
  | nil : HdOk X M N sc [] []
  | c {tb : List (Nat × Bool)} {i : Nat} {d : D} {y : Str} {yc : Nat} {np p1 p2 pos' : Pos} {x : Str} {e : Expr} {hs : List Hd} {hds : List ExceptHandler} (hy : M.mg y = some (.ref (M.ca yc))) (hg : sc.names.lookup y = some .globalImplicit) (hdb : (y == ("__debug__" : Str)) = false)
      (ex : ∀ c b, tbAt tb c = some b → PySem.W.exmOne M.K (.ref (M.ca c)) (.ref (M.ca yc)) = some b) (he : ∀ (X' : Cx) (G : Gx) (ρ : Env) (hc : Hc) (P : D → Hc → Prop), P d hc → EX X' M G e ρ hc P) (hN : N[i]? = some x) (hl : Sto X sc x) (hsw : swapsWith e (some (.Name x p1)) p2.line X.env = pure false) (r : HdOk X M N sc hs hds) :
      HdOk X M N sc (.c tb i d :: hs) (.ExceptHandler (some (.Name y np)) none [.Assign [.Name x p1] e p2] pos' :: hds)
theorem names_of (hb : Bw X M N sc) {y : Str} {yc : Nat} (hy : M.mg y = some (.ref (M.ca yc))) (hg : sc.names.lookup y = some .globalImplicit) (hdb : (y == ("__debug__" : Str)) = false) : Names X y (.ref (M.ca yc)) := ⟨hb.gl hg, hdb, .inl (by rw [hb.hmg]; exact hy)⟩
abbrev tsOf (X : Cx) (b : List Stmt) : Addr → Value → Option Addr → TS := fun a _ _ D σ H => ∀ oe pn, rdB (X.suite a ((a, oe) :: pn)) b D σ H
theorem hds_of (hb : Bw X M N sc) {hs : List Hd} {hds : List ExceptHandler} (h : HdOk X M N sc hs hds) {D : Ends} {w0 : Wd} {H0 : Hp} {Wo : WX} (S : Out → Prop) (PX : Nat → Pl → Env → Hc → Prop) (q : ∀ o, S o → OutOk M w0 H0 D o) (xo : ∀ c pl d σ w H ρ, PX c pl ρ w.h → Ext w0 H0 w H → WOk M w H → SOk M w σ ρ → PlRep M w H d pl → Wo (.ref (M.ca c)) d σ H) :
    ∃ l, HdsOk X hds l ∧ ∀ c pl d σ w H ρ, HandP S PX hs c pl ρ w.h → Ext w0 H0 w H → WOk M w H → SOk M w σ ρ → PlRep M w H d pl → wMany X.K Wo D l (.ref (M.ca c)) d σ H := by
  induction h with
  | nil => exact ⟨[], .nil, xo⟩
  | @c tb i d y yc np p1 p2 pos' x e hs hds hy hg hdb ex he hN hl hsw r ih =>
    obtain ⟨l, h1, h2⟩ := ih
    refine ⟨(.ref (M.ca yc), tsOf X [.Assign [.Name x p1] e p2]) :: l, .cons (names_of hb hy hg hdb) (fun a oe cls dd pn _ _ => ⟨fun pins s σ H D I h => h oe pn pins s I⟩) h1, ?_⟩
    intro c pl dd σ w H ρ hp ew wk sk rp
    obtain ⟨b, hb1, hb2, hb3⟩ := hp
    refine ⟨b, by rw [hb.hK]; exact ex c b hb1, fun eb a ha oe pn => ?_, fun eb => h2 c pl dd σ w H ρ (hb3 eb) ew wk sk rp⟩
    have hbs : Bw (X.suite a ((a, oe) :: pn)) M N sc := ⟨hb.hN, hb.nd, hb.hsc, hb.hP, hb.hw, hb.hK, hb.hmg, hb.hbase⟩
    have := bx_one (X := X.suite a ((a, oe) :: pn)) (M := M) (G := Gn) (S := S) (ρ := ρ) (hc := w.h) (sx_set (pos := p2) (pos' := p1) i hbs (he _ Gn ρ w.h (fun d h' => S (.nx (ρ.set i (some d)) h')) (hb2 eb)) hN hl hsw)
    exact this w0 H0 σ w H D rfl ew wk sk (fun _ _ _ _ _ _ _ z => z.elim) q
theorem sx_try {body : List Stmt} {h0 : ExceptHandler} {hds : List ExceptHandler} {hs : List Hd} (hb : Bx X M N sc k G.W) (fx : Frx X) (ho : HdOk X M N sc hs (h0 :: hds)) (h : ∀ X' W', Bx X' M N sc k W' → Frx X' → BX X' M ⟨W', fun c pl ρ' h' => HandP S G.PX hs c pl ρ' h'⟩ body ρ hc S) : SX X M G (.Try body (h0 :: hds) [] [] pos) ρ hc S := by
  intro w0 H0 σ w H D eh ex wk sk xc q pins s I
  obtain ⟨l, h1, h2⟩ := hds_of hb.toBw ho (D := D) (Wo := G.W) S G.PX q xc
  refine (ps_try_many (tb := fun W D σ H => ∀ pn xe, Takes (X.tr pn xe) W → PassesOwn (model X.prog X.w) X.A X.env xe → rdB (X.tr pn xe) body D σ H) fx.st fx.fr hb.tk (fun W pn xe tk po => ⟨fun pins s σ H D I h => h pn xe tk po pins s I⟩) h1).run pins s σ H D I fun pn xe tk po => ?_
  have hbt : Bx (X.tr pn xe) M N sc k (wMany X.K G.W D l) := ⟨⟨hb.hN, hb.nd, hb.hsc, hb.hP, hb.hw, hb.hK, hb.hmg, hb.hbase⟩, hb.calm, po, hb.room, tk⟩
  exact h _ _ hbt ⟨fx.st, fx.fr, fx.fn⟩ w0 H0 σ w H D eh ex wk sk h2 q
/-- except C as e: x = e.n -/
theorem sx_try_as {body : List Stmt} {tb : List (Nat × Bool)} {ei i : Nat} {n : Tx} {y en x : Str} {yc : Nat} {np p1 p2 p3 p4 pos' : Pos} (hb : Bx X M N sc k G.W) (fx : Frx X) (hy : M.mg y = some (.ref (M.ca yc))) (hg : sc.names.lookup y = some .globalImplicit) (hdb : (y == ("__debug__" : Str)) = false)
    (exm : ∀ c b, tbAt tb c = some b → PySem.W.exmOne M.K (.ref (M.ca c)) (.ref (M.ca yc)) = some b) (one : ∀ c, tbAt tb c = some true → c = yc) (Tx' : XfC M.K (M.ca yc)) (no : PySem.W.findIn M.K (.ref (M.ca yc)) (ts n) = some none)
    (hE : N[ei]? = some en) (hEl : sc.names.lookup en = some .local) (hne : ei ≠ i) (en1 : (en == ("__debug__" : Str)) = false) (en2 : (en == ("__classdict__" : Str)) = false) (hN : N[i]? = some x) (hl : Sto X sc x)
    (h : ∀ X' W', Bx X' M N sc k W' → Frx X' → BX X' M ⟨W', fun c pl ρ' h' => HandP S G.PX [.f tb ei i n] c pl ρ' h'⟩ body ρ hc S) : SX X M G (.Try body [.ExceptHandler (some (.Name y np)) (some en) [.Assign [.Name x p1] (.Attribute (.Name en p2) (ts n) p3) p4] pos'] [] [] pos) ρ hc S := by
  intro w0 H0 σ w H D eh ex wk sk xc q pins s I
  have hK := hb.hK
  refine (ps_try_as (i := ei) (c := .ref (M.ca yc)) (Wout := G.W) (ts := fun a cls d => tAsg (tXf a cls d (M.ca yc) (ts n) (tVar ei)) (gName i)) (tb := fun W D σ H => ∀ pn xe, Takes (X.tr pn xe) W → PassesOwn (model X.prog X.w) X.A X.env xe → rdB (X.tr pn xe) body D σ H) fx.st fx.fr (by rw [hb.hN]; exact hb.nd) (by rw [hb.hN]; exact hE)
    (by show X.env.scope.names.lookup en = _; rw [hb.hsc]; exact hEl) (names_of hb.toBw hy hg hdb) hb.tk (fun W pn xe tk po => ⟨fun pins s σ H D I h => h pn xe tk po pins s I⟩) (fun a oe cls d pn z1 z2 => ?_)).run pins s σ H D I fun pn xe tk po => ?_
  · have hbs : Bw (X.suite a ((a, oe) :: pn)) M N sc := ⟨hb.hN, hb.nd, hb.hsc, hb.hP, hb.hw, hb.hK, hb.hmg, hb.hbase⟩
    exact pss_one (ps_set (i := i) (by rw [hb.hN]; exact hb.nd) (by rw [hb.hN]; exact hN) (loc_hf hbs hl).1 (pe_xf (by rw [hb.hK]; exact Tx') (by rw [hb.hK]; exact no) z1 z2 (pe_var (i := ei) (by rw [hb.hN]; exact hE) (by rw [hb.hsc]; exact .inl hEl) en1 en2)) (by rfl) (loc_hf hbs hl).2)
  · have hbt : Bx (X.tr pn xe) M N sc k (wAs X.K (.ref (M.ca yc)) ei (fun a cls d => tAsg (tXf a cls d (M.ca yc) (ts n) (tVar ei)) (gName i)) G.W D) := ⟨⟨hb.hN, hb.nd, hb.hsc, hb.hP, hb.hw, hb.hK, hb.hmg, hb.hbase⟩, hb.calm, po, hb.room, tk⟩
    refine h _ _ hbt ⟨fx.st, fx.fr, fx.fn⟩ w0 H0 σ w H D eh ex wk sk (fun c pl d σ' w' H' ρ' hp e' k' s' rp => ?_) q
    obtain ⟨b, b1, b2, b3⟩ := hp
    refine ⟨b, by rw [hK]; exact exm c b b1, fun eb a ha => ?_, fun eb => xc c pl d σ' w' H' ρ' (b3 eb) e' k' s' rp⟩
    subst eb
    obtain ⟨fs, v, rfl, hle, hl2, hS⟩ := b2 rfl
    have hc := one c b1
    subst hc
    obtain ⟨dx, vs, rfl, hx, rf⟩ := rp
    obtain ⟨v', hv', rv⟩ := lkF_of rf hl2
    have hlen : ei < σ'.length := by rw [s'.len]; exact hle
    refine ⟨_, List.getElem?_set_self hlen, rfl, rfl, dx, vs, v', rfl, hx, hv', ?_⟩
    have := (s'.set (i := i) rv).unset ei
    have eq : ((σ'.set ei (some (.ref a))).set i (some v')).set ei none = (σ'.set i (some v')).set ei none := by
      rw [List.set_comm _ _ hne, List.set_set]
    show D.nx (((σ'.set ei (some (.ref a))).set i (some v')).set ei none) H'
    rw [eq]
    exact q _ hS _ w' H' rfl e' k' this
end
end Yl

set_option maxRecDepth 100000
set_option maxHeartbeats 4000000
/-! Y10: methods, fields stored, instances made, cells handed over. -/
namespace Yl
open PySem PySem.Spec PyProof.Rows L2
open TL (pre spl tl split_spl)
/-! ### texts -/
theorem pre1 (c a : Nat) (x : Tx) : pre [c] (a :: x) = Nat.beq a c := by
  show ((a :: x).take 1 == [c]) = _
  by_cases h : a = c
  · subst h; simp
  · have : Nat.beq a c = false := by
      cases e : Nat.beq a c with
      | false => rfl
      | true => exact absurd (Nat.eq_of_beq_eq_true e) h
    rw [this]
    simpa using h
theorem spl_split (c : Nat) : ∀ (x acc : Tx), spl [c] 0 acc x = splitT c acc x
  | [], acc => rfl
  | a :: x, acc => by
    show (if pre [c] (a :: x) = true then acc :: spl [c] (([c] : Tx).length - 1) [] x else spl [c] 0 (acc ++ [a]) x) = _
    rw [pre1]
    show _ = (if Nat.beq a c then acc :: splitT c [] x else splitT c (acc ++ [a]) x)
    rw [← spl_split c x [], ← spl_split c x (acc ++ [a])]; rfl
theorem split_eq {s : Tx} {c : Nat} (h : c < 256) : Txt.split (ts s) (ts [c]) = (splitT c [] s).map ts := by
  have hk : ¬ Builtin.Str.strKind (ts s) < Builtin.Str.strKind (ts [c]) := by
    have e1 : Builtin.Str.strKind (ts [c]) = 1 := by
      unfold Builtin.Str.strKind ts
      simp [h]
    rw [e1]
    unfold Builtin.Str.strKind
    split
    · omega
    · split <;> omega
  have q := split_spl (ts s) (ts [c]) (by simp [tl, ts]) hk
  have e1 : tl (ts [c]) = [c] := rfl
  have e2 : tl (ts s) = s := ts_list s
  rw [e1, e2, spl_split] at q
  have q2 := congrArg (List.map ts) q
  rw [List.map_map] at q2
  have : (ts ∘ tl) = id := by
    funext z
    exact ts_of z
  rw [this, List.map_id] at q2
  exact q2
theorem join_eq {s : Tx} : ∀ ss : List Tx, Txt.join (ts s) (ss.map ts) = ts (joinT s ss)
  | [] => rfl
  | x :: r => by
    show (⟨((r.map ts)).foldl (fun acc p => acc ++ (ts s).cps ++ p.cps) (ts x).cps⟩ : Str) = ts (joinR s r x)
    have : ∀ (r : List Tx) (a : Tx), (r.map ts).foldl (fun acc p => acc ++ (ts s).cps ++ p.cps) a.toArray = (joinR s r a).toArray := by
      intro r
      induction r with
      | nil => intro a; rfl
      | cons y r ih =>
        intro a
        show (r.map ts).foldl _ (a.toArray ++ (ts s).cps ++ (ts y).cps) = (joinR s r (a ++ s ++ y)).toArray
        rw [← ih (a ++ s ++ y)]
        congr 1
        simp [ts]
    exact congrArg Str.mk (this r x)
theorem strs_map : ∀ {ds : List D} {ss : List Tx}, txsOf ds = some ss → ds = ss.map D.str
  | [], ss, h => by cases h; rfl
  | d :: ds, ss, h => by
    cases d <;> first | (cases h; done) | skip
    unfold txsOf at h
    cases e : txsOf ds with
    | none => rw [e] at h; cases h
    | some r =>
      rw [e] at h; cases h
      rw [strs_map e]; rfl
section
variable {M : Mx} {F : Hp} {m : List Addr}
theorem rep_strs : ∀ {ss : List Tx} {vs : List V}, RepL M F m vs (ss.map D.str) → vs = (ss.map ts).map V.str
  | [], vs, r => r.nil_inv
  | s :: ss, vs, r => by
    obtain ⟨v, us, rfl, r1, r2⟩ := At.cons_inv (ys := ss.map D.str) (y := .str s) r
    rw [r1.str_inv, rep_strs r2]; rfl
theorem strs_rep : ∀ {ss : List Tx}, RepL M F m ((ss.map ts).map V.str) (ss.map D.str)
  | [] => .nil
  | s :: ss => .cons (.str s) strs_rep
theorem sum_len (ss : List Tx) : ((ss.map ts).map (·.length)).sum = (ss.map List.length).sum := by
  rw [List.map_map]
  have : ((fun x : Str => x.length) ∘ ts) = List.length := by
    funext s
    exact ts_len s
  rw [this]
end
section
variable {X : Cx} {M : Mx} {N : List Str} {sc : Scope} {k k' : Nat} {W : WX} {G : Gx} {ρ : Env} {hc : Hc} {P : D → Hc → Prop} {PF : Bool → D → Hc → Prop} {S : Out → Prop} {a b c e o : Expr} {es : List Expr} {x m : Str} {pos p apos : Pos} {ps : List Str} {C : Con}
/-! ### methods of texts -/
theorem fx_m1 {id : String} {r : V → List V → Hp → VK → Prop} (slot : Slot "str" m id) (ty : typeOf (.builtin id) = pure (.type "method_descriptor")) (rule : MtR X id r) (hs : starEach [e] X.env = [(false, eval e X.env)]) (hbase : attributeBase o m X.env (eval o X.env) = eval o X.env) (hline : (apos.endLine == pos.line) = true)
    (h : EX X M G o ρ hc fun x h1 => ∃ z, x = .str z ∧ EX X M G e ρ h1 fun y h2 => ∃ f d, PF f d h2 ∧ ∀ u w H (Q : VK), w.h = h2 → WOk M w H → Rep M w.F w.m u y → Fin M w H f d Q → r (.str (ts z)) [u] H Q) : FX X M G (.Call (.Attribute o m apos) [e] [] pos) ρ hc PF :=
  .of (pe_m1 slot ty rule pe_rd pe_rd hs hbase hline) fun σ w H Q eh wk sk xc q => h σ w H _ eh wk sk xc fun s v w1 H1 hp e1 k1 r1 => by
    obtain ⟨z, rfl, hp⟩ := hp
    refine ⟨⟨ts z, r1.str_inv⟩, ?_⟩
    refine hp σ w1 H1 _ rfl k1 (sk.ext e1) (xc.ext e1) fun y u w2 H2 p2 e2 k2 r2 => ?_
    obtain ⟨f, d, pf, pr⟩ := p2
    rw [r1.str_inv]
    exact pr u w2 H2 Q rfl k2 r2 (fin_of (e1.trans e2) pf q)
/-- a.split(c) -/
theorem fx_split (hb : Bw X M N sc) (hs : starEach [e] X.env = [(false, eval e X.env)]) (hbase : attributeBase o "split" X.env (eval o X.env) = eval o X.env) (hline : (apos.endLine == pos.line) = true)
    (h : EX X M G o ρ hc fun x h1 => ∃ z, x = .str z ∧ EX X M G e ρ h1 fun y h2 => ∃ c, y = .str [c] ∧ z.length + 2 ≤ lim ∧ c < 256 ∧ PF true (.lst ((splitT c [] z).map .str)) h2) : FX X M G (.Call (.Attribute o "split" apos) [e] [] pos) ρ hc PF :=
  fx_m1 PySem.F.slot_str_split PySem.F.type_str_split mt_split hs hbase hline (EX.mono h fun x h1 p => by
    obtain ⟨z, rfl, p⟩ := p
    refine ⟨z, rfl, EX.mono p fun y h2 p => ?_⟩
    obtain ⟨c, rfl, hl, hc, pf⟩ := p
    refine ⟨true, _, pf, fun u w H Q eh wk r k => ⟨ts z, ts [c], rfl, by rw [r.str_inv], by simp [ts, Str.length], by rw [ts_len, ← lim_eq]; exact hl, fun q hq => ?_⟩⟩
    rw [split_eq hc]
    exact k.box wk rfl hq strs_rep)
/-- s.join(xs) -/
theorem fx_join (hb : Bw X M N sc) (hs : starEach [e] X.env = [(false, eval e X.env)]) (hbase : attributeBase o "join" X.env (eval o X.env) = eval o X.env) (hline : (apos.endLine == pos.line) = true)
    (h : EX X M G o ρ hc fun x h1 => ∃ z, x = .str z ∧ EX X M G e ρ h1 fun y h2 => ∃ ys ss, (deref h2 y = .lst ys ∨ deref h2 y = .tup ys) ∧ txsOf ys = some ss ∧ joinOk z ss = true ∧ PF false (.str (joinT z ss)) h2) : FX X M G (.Call (.Attribute o "join" apos) [e] [] pos) ρ hc PF :=
  fx_m1 PySem.F.slot_str_join PySem.F.type_str_join mt_join hs hbase hline (EX.mono h fun x h1 p => by
    obtain ⟨z, rfl, p⟩ := p
    refine ⟨z, rfl, EX.mono p fun y h2 p => ?_⟩
    obtain ⟨ys, ss, hy, he, hj, pf⟩ := p
    refine ⟨false, _, pf, fun u w H Q eh wk r k => ?_⟩
    rw [← eh] at hy
    have hz : ((ss.map ts).map (·.length)).sum + (ss.map ts).length * (ts z).length ≤ 16777216 := by
      rw [sum_len, ts_len, List.length_map]
      exact Nat.le_of_ble_eq_true hj
    have e2 := strs_map he
    subst e2
    rcases hy with hy | hy
    · obtain ⟨a, vs, rfl, ha, rl⟩ := den_lst wk r hy
      obtain rfl := rep_strs rl
      exact ⟨ts z, a, ss.map ts, rfl, rfl, .inl (.inl (.inl ha)), hz, by rw [join_eq]; exact k.here wk (.str _)⟩
    · obtain ⟨a, vs, rfl, fa, ha, rl⟩ := den_tup wk r hy
      obtain rfl := rep_strs rl
      exact ⟨ts z, a, ss.map ts, rfl, rfl, .inr (by rw [hb.hK]; exact sqT_of wk.le fa), hz, by rw [join_eq]; exact k.here wk (.str _)⟩)
/-- xs.append(e), xs a cell -/
theorem fx_app (hb : Bw X M N sc) (hbase : attributeBase o "append" X.env (eval o X.env) = eval o X.env) (hline : (apos.endLine == pos.line) = true) (hs : starEach [e] X.env = (false, eval e X.env) :: starEach [] X.env)
    (hfew : ((backTo pos (starEach [e] X.env)).all (fun x => !x.1) && (backToKw pos (keywordEach [] X.env)).all (fun x => x.1.isSome) && decide (([e] : List Expr).length + ([] : List Keyword).length + (if ([] : List Keyword).isEmpty then 0 else 1) < 30)) = true)
    (h : EX X M G o ρ hc fun x h1 => ∃ j ds0, x = .ref j ∧ h1[j]? = some (some (.lst ds0)) ∧ EX X M G e ρ h1 fun y h2 => ∃ ds, h2[j]? = some (some (.lst ds)) ∧ ds.length < lim ∧ PF false .non (h2.set j (some (.lst (ds ++ [y]))))) : FX X M G (.Call (.Attribute o "append" apos) [e] [] pos) ρ hc PF :=
  .of (pe_bm PySem.F.plainAttrs_list PySem.F.slot_list_append PySem.F.type_list_append mt_append pe_rd (pa_rd (es := [e])) hbase hfew hline hs (by rfl)) fun σ w H Q eh wk sk xc q => h σ w H _ eh wk sk xc fun s v w1 H1 hp e1 k1 r1 => by
    obtain ⟨j, ds0, rfl, hj, hp⟩ := hp
    obtain ⟨a, u, ha, fa, hu, c⟩ := k1.al j _ hj
    obtain ⟨a', ha', rfl⟩ := r1.ref_inv
    rw [ha] at ha'; cases ha'
    cases u <;> first | exact c.elim | skip
    refine ⟨.inl ⟨rfl, _, .inl (.inl hu)⟩, ?_⟩
    have pa : AX X M G [e] ρ w1.h fun ds h' => ∃ y, ds = [y] ∧ ∃ ds, h'[j]? = some (some (.lst ds)) ∧ ds.length < lim ∧ PF false .non (h'.set j (some (.lst (ds ++ [y])))) := ax_cons hs (EX.mono hp fun d h' pd => ax_nil ⟨d, rfl, pd⟩)
    refine pa σ w1 H1 _ rfl k1 (sk.ext e1) (xc.ext e1) fun ds vs w2 H2 pd e2 k2 r2 => ?_
    obtain ⟨y, rfl, ds, hj2, hl, pf⟩ := pd
    obtain ⟨z, us, rfl, rz, r3⟩ := r2.cons_inv
    obtain rfl := r3.nil_inv
    obtain ⟨a2, u2, ha2, fa2, hu2, c2⟩ := k2.al j _ hj2
    rw [e2.mm j a ha] at ha2; cases ha2
    cases u2 <;> first | exact c2.elim | skip
    rename_i vs2
    have c3 : Cont M w2.F w2.m (.lst (ds ++ [y])) (.lst (vs2 ++ [z])) := At.append c2 (.cons rz .nil)
    obtain ⟨e3, k3⟩ := ext_put k2 hj2 (e2.mm j a ha) c3
    exact ⟨a, vs2, z, rfl, rfl, hu2, by rw [c2.1, ← lim_eq]; exact hl, q false .non _ _ _ pf ((e1.trans e2).trans e3) k3 .non⟩
end
end Yl

set_option maxRecDepth 100000
set_option maxHeartbeats 4000000
/-! Y11: fields and items stored, instances made, cells handed over. -/
namespace Yl
open PySem PySem.Spec PyProof.Rows L2
theorem putF_of {M : Mx} {F : Hp} {m : List Addr} {n : Tx} {d : D} {v : V} (rv : Rep M F m v d) : ∀ {vs : List (Str × V)} {fs : List (Tx × D)}, At (FR M F m) vs fs → At (FR M F m) (L2.putF (ts n) v vs) (Yl.putF n d fs)
  | vs, [], r => by
    have := r.nil_inv
    subst this
    exact .cons ⟨rfl, rv⟩ .nil
  | vs, (g, d') :: fs, r => by
    obtain ⟨⟨g', v'⟩, us, rfl, r1, r2⟩ := r.cons_inv
    obtain ⟨e1, r3⟩ := r1
    dsimp only at e1 r3
    subst e1
    unfold L2.putF Yl.putF
    rw [txBeq_iff]
    by_cases q : g = n
    · subst q
      rw [decide_eq_true rfl, if_pos rfl, if_pos rfl]
      exact .cons ⟨rfl, rv⟩ r2
    · rw [decide_eq_false q, if_neg Bool.false_ne_true, if_neg (fun z => q (ts_inj z))]
      exact .cons ⟨rfl, r3⟩ (putF_of rv r2)
section
variable {X : Cx} {M : Mx} {N : List Str} {sc : Scope} {k k' : Nat} {W : WX} {G : Gx} {ρ : Env} {hc : Hc} {P : D → Hc → Prop} {PF : Bool → D → Hc → Prop} {S : Out → Prop} {a b c e o value : Expr} {es : List Expr} {x m : Str} {pos pos' p apos : Pos} {ps : List Str} {C : Con}
/-- o.n = e, o a cell -/
theorem sx_setFld {n : Tx} (hb : Bw X M N sc) (hs : swapsWith value (some (.Attribute o (ts n) pos')) pos.line X.env = pure false)
    (h : EX X M G value ρ hc fun y h1 => EX X M G o ρ h1 fun x h2 => ∃ j C fs, x = .ref j ∧ h2[j]? = some (some (.ins C fs)) ∧ Cls M.K (M.ca C) ∧ NoAttr M.K (M.ca C) (ts n) ∧ fs.length < 1000 ∧ S (.nx ρ (h2.set j (some (.ins C (Yl.putF n y fs)))))) : SX X M G (.Assign [.Attribute o (ts n) pos'] value pos) ρ hc S :=
  .of (ps_fld pe_rd pe_rd hs) fun w0 H0 σ w H D eh ex wk sk xc q => h σ w H _ eh wk sk (xc.xc ex sk) fun y v w1 H1 p1 e1 k1 r1 => p1 σ w1 H1 _ rfl k1 (sk.ext e1) (xc.xc (ex.trans e1) (sk.ext e1)) fun d z w2 H2 p2 e2 k2 r2 => by
    obtain ⟨j, C, fs, rfl, hj, hcl, hna, hl, pS⟩ := p2
    obtain ⟨a, u, ha, fa, hu, c⟩ := k2.al j _ hj
    obtain ⟨a', ha', rfl⟩ := r2.ref_inv
    rw [ha] at ha'; cases ha'
    cases u <;> first | exact c.elim | skip
    rename_i C' dx vs
    obtain ⟨rfl, c⟩ := c
    refine ⟨a, _, dx, vs, rfl, hu, by rw [hb.hK]; exact hcl, by rw [hb.hK]; exact hna, by rw [c.1]; exact hl, ?_⟩
    have c3 : Cont M w2.F w2.m (.ins C (Yl.putF n y fs)) (.ins (M.ca C) dx (L2.putF (ts n) v vs)) := ⟨rfl, putF_of (r1.mono e2.ff e2.mm) c⟩
    obtain ⟨e3, k3⟩ := ext_put k2 hj ha c3
    exact q _ pS σ _ _ rfl (((ex.trans e1).trans e2).trans e3) k3 (sk.ext ((e1.trans e2).trans e3))
/-- d[k] = e, d a cell -/
theorem sx_setIx {i : Expr} (hb : Bx X M N sc k W) (hs : swapsWith value (some (.Subscript o i pos')) pos.line X.env = pure false)
    (h : EX X M G value ρ hc fun y h1 => EX X M G o ρ h1 fun x h2 => EX X M G i ρ h2 fun z h3 => ∃ j t kvs, x = .ref j ∧ h3[j]? = some (some (.dct t kvs)) ∧ fits t z = true ∧ kvs.length < lim ∧ S (.nx ρ (h3.set j (some (.dct t (putD kvs z y)))))) : SX X M G (.Assign [.Subscript o i pos'] value pos) ρ hc S :=
  .of (ps_dput (by have := hb.room.un; omega) pe_rd pe_rd pe_rd hs) fun w0 H0 σ w H D eh ex wk sk xc q => h σ w H _ eh wk sk (xc.xc ex sk) fun y v w1 H1 p1 e1 k1 r1 => p1 σ w1 H1 _ rfl k1 (sk.ext e1) (xc.xc (ex.trans e1) (sk.ext e1)) fun d z w2 H2 p2 e2 k2 r2 => p2 σ w2 H2 _ rfl k2 (sk.ext (e1.trans e2)) (xc.xc ((ex.trans e1).trans e2) (sk.ext (e1.trans e2))) fun key kv w3 H3 p3 e3 k3 r3 => by
    obtain ⟨j, t, kvs, rfl, hj, hf, hl, pS⟩ := p3
    obtain ⟨a, u, ha, fa, hu, c⟩ := k3.al j _ hj
    obtain ⟨a', ha', rfl⟩ := (r2.mono e3.ff e3.mm).ref_inv
    rw [ha] at ha'; cases ha'
    have rv := r1.mono (fun a o z => e3.ff a o (e2.ff a o z)) fun i a z => e3.mm i a (e2.mm i a z)
    have e03 := (e1.trans e2).trans e3
    cases u <;> first | exact c.elim | skip
    · rename_i vs
      obtain ⟨rfl, c⟩ := c
      obtain ⟨ky, rfl, rfl⟩ := key_of r3 hf
      have c3 : Cont M w3.F w3.m (.dct false (putD kvs (kD ky) y)) (.dK (putK vs ky v)) := ⟨rfl, putD_of eqv_key rv c⟩
      obtain ⟨e4, k4⟩ := ext_put k3 hj ha c3
      exact ⟨a, _, rfl, .inl ⟨vs, ky, hu, rfl, by rw [c.1, ← lim_eq]; exact hl, rfl⟩, q _ pS σ _ _ rfl ((ex.trans e03).trans e4) k4 (sk.ext (e03.trans e4))⟩
    · rename_i vs
      obtain ⟨rfl, c⟩ := c
      obtain ⟨ks, b, rfl, rfl, hb'⟩ := tkey_of k3 r3 hf
      have c3 : Cont M w3.F w3.m (.dct true (putD kvs (ktD ks) y)) (.dT (putK vs ks v)) := ⟨rfl, putD_of eqv_tkey rv c⟩
      obtain ⟨e4, k4⟩ := ext_put k3 hj ha c3
      exact ⟨a, _, rfl, .inr ⟨vs, ks, b, hu, rfl, hb', by rw [c.1, ← lim_eq]; exact hl, rfl⟩, q _ pS σ _ _ rfl ((ex.trans e03).trans e4) k4 (sk.ext (e03.trans e4))⟩
theorem pset_or {t t' : TSet} (a : PSet X t) (b : PSet X t') : PSet X (fun o i v H Q => t o i v H Q ∨ t' o i v H Q) := fun pins s σ H o i v ov iv u Q I ro ri rv h => h.elim (a pins s σ H o i v ov iv u Q I ro ri rv) (b pins s σ H o i v ov iv u Q I ro ri rv)
theorem sx_putIx {i : Expr} (hb : Bx X M N sc k W) (hs : swapsWithSole [.Subscript o i pos'] value pos.line X.env = pure false) (hw : swappedStores [.Subscript o i pos'] value X.env = pure none) (ha : ∀ v, assign (.Subscript o i pos') X.env v = (do
      let ov ← holding [v] (eval o X.env)
      let iv ← holding [v, ov] (eval i X.env)
      standAt pos'
      holding [v, ov, iv] (setItem ov iv v)
      release [v, ov, iv] []))
    (h : EX X M G value ρ hc fun y h1 => EX X M G o ρ h1 fun x h2 => EX X M G i ρ h2 fun z h3 => ∃ j c d, x = .ref j ∧ h3[j]? = some (some c) ∧ putIx c z y = some d ∧ S (.nx ρ (h3.set j (some d)))) : SX X M G (.Assign [.Subscript o i pos'] value pos) ρ hc S :=
  .of (ps_asg pe_rd (pg_sub pe_rd pe_rd (pset_or set_list (set_dict (by have := hb.room.un; omega))) ha) hs hw) fun w0 H0 σ w H D eh ex wk sk xc q => h σ w H _ eh wk sk (xc.xc ex sk) fun y v w1 H1 p1 e1 k1 r1 => p1 σ w1 H1 _ rfl k1 (sk.ext e1) (xc.xc (ex.trans e1) (sk.ext e1)) fun d z w2 H2 p2 e2 k2 r2 => p2 σ w2 H2 _ rfl k2 (sk.ext (e1.trans e2)) (xc.xc ((ex.trans e1).trans e2) (sk.ext (e1.trans e2))) fun key kv w3 H3 p3 e3 k3 r3 => by
    obtain ⟨j, c0, d0, rfl, hj, hp, pS⟩ := p3
    obtain ⟨a, u, ha, fa, hu, c⟩ := k3.al j _ hj
    obtain ⟨a', ha', rfl⟩ := (r2.mono e3.ff e3.mm).ref_inv
    rw [ha] at ha'; cases ha'
    have rv := r1.mono (fun a o z => e3.ff a o (e2.ff a o z)) fun i a z => e3.mm i a (e2.mm i a z)
    have e03 := (e1.trans e2).trans e3
    unfold putIx at hp
    split at hp
    · rename_i t kvs
      split at hp
      · rename_i hfl
        cases hp
        rw [Bool.and_eq_true_iff, decide_eq_true_eq] at hfl
        obtain ⟨hf, hl⟩ := hfl
        cases u <;> first | exact c.elim | skip
        · rename_i vs
          obtain ⟨rfl, c⟩ := c
          obtain ⟨ky, rfl, rfl⟩ := key_of r3 hf
          have c3 : Cont M w3.F w3.m (.dct false (putD kvs (kD ky) y)) (.dK (putK vs ky v)) := ⟨rfl, putD_of eqv_key rv c⟩
          obtain ⟨e4, k4⟩ := ext_put k3 hj ha c3
          exact .inr ⟨a, _, rfl, .inl ⟨vs, ky, hu, rfl, by rw [c.1, ← lim_eq]; exact hl, rfl⟩, q _ pS σ _ _ rfl ((ex.trans e03).trans e4) k4 (sk.ext (e03.trans e4))⟩
        · rename_i vs
          obtain ⟨rfl, c⟩ := c
          obtain ⟨ks, b, rfl, rfl, hb'⟩ := tkey_of k3 r3 hf
          have c3 : Cont M w3.F w3.m (.dct true (putD kvs (ktD ks) y)) (.dT (putK vs ks v)) := ⟨rfl, putD_of eqv_tkey rv c⟩
          obtain ⟨e4, k4⟩ := ext_put k3 hj ha c3
          exact .inr ⟨a, _, rfl, .inr ⟨vs, ks, b, hu, rfl, hb', by rw [c.1, ← lim_eq]; exact hl, rfl⟩, q _ pS σ _ _ rfl ((ex.trans e03).trans e4) k4 (sk.ext (e03.trans e4))⟩
      · cases hp
    · rename_i xs
      split at hp
      · rename_i i
        cases e : Yl.ixN xs.length i with
        | none => rw [e] at hp; cases hp
        | some n =>
          rw [e] at hp; cases hp
          cases u <;> first | exact c.elim | skip
          rename_i vs
          have c3 : Cont M w3.F w3.m (.lst (xs.set n y)) (.lst (vs.set n v)) := At.set c rv n
          obtain ⟨e4, k4⟩ := ext_put k3 hj ha c3
          exact .inl ⟨a, vs, i, n, rfl, r3.int_inv, hu, by rw [ixN_of, c.1]; exact e, q _ pS σ _ _ rfl ((ex.trans e03).trans e4) k4 (sk.ext (e03.trans e4))⟩
      · cases hp
    · cases hp
/-! ### instances made -/
section
variable {w1 w2 : Wd} {H1 H2 : Hp} {x dx : Addr} {ob : HO}
/-- a world of one new cell, and back -/
theorem one_back {d0 : D} {o1 o2 : HO} (k1 : WOk M w1 H1) (hx : H1 x = none) (hdx : H1 dx = none) (ne : dx ≠ x) (n1 : ∀ vs, o1 ≠ .tup vs) (k2 : WOk M w2 H2) (e : Ext ⟨w1.F, [x], [some d0]⟩ (upd (upd H1 dx o1) x o2) w2 H2) : Ext w1 H1 { w1 with F := w2.F } H2 ∧ WOk M { w1 with F := w2.F } H2 := by
  have lv : ∀ i a, Live (⟨w1.F, [x], [some d0]⟩ : Wd) i a → a = x := fun i a l => by
    obtain ⟨⟨d, h⟩, h2⟩ := l
    cases i with
    | zero => simp at h2; exact h2.symm
    | succ i => simp at h
  have st : ∀ a u, H1 a = some u → H2 a = some u := fun a u h => by
    have n1 := ne_of_none h hx
    have n2 := ne_of_none h hdx
    exact e.hh a u (by rw [upd_ne n1, upd_ne n2]; exact h) fun i l => n1 (lv i a l)
  have fr : ∀ a o, w2.F a = some o → w1.F a = some o ∨ H1 a = none ∨ ∃ vs, H1 a = some (.tup vs) := fun a o h => by
    rcases e.fr a o h with z | z | ⟨vs, z⟩ | ⟨i, z⟩
    · exact .inl z
    · by_cases q : a = x
      · subst q; exact .inr (.inl hx)
      · rw [upd_ne q] at z
        by_cases q2 : a = dx
        · subst q2; exact .inr (.inl hdx)
        · rw [upd_ne q2] at z; exact .inr (.inl z)
    · by_cases q : a = x
      · subst q; exact .inr (.inl hx)
      · rw [upd_ne q] at z
        by_cases q2 : a = dx
        · subst q2; exact .inr (.inl hdx)
        · rw [upd_ne q2] at z; exact .inr (.inr ⟨vs, z⟩)
    · have := lv i a z
      subst this; exact .inr (.inl hx)
  have nf : ∀ i a, Live w1 i a → w2.F a = none := fun i a l => by
    obtain ⟨⟨d, h⟩, ha⟩ := l
    obtain ⟨a', u, h1, h2, h3, h4⟩ := k1.al i d h
    rw [ha] at h1; cases h1
    cases q : w2.F a with
    | none => rfl
    | some o =>
      rcases fr a o q with z | z | ⟨vs, z⟩
      · rw [h2] at z; cases z
      · rw [h3] at z; cases z
      · rw [h3] at z; cases z; exact absurd h4 cell_notup
  refine ⟨⟨e.ff, fun _ _ h => h, fun a u h _ => st a u h, fun a h => ?_, fun a o h => ?_, fun i a l => .inl ⟨i, l⟩⟩, k1.keep (w' := { w1 with F := w2.F }) e.ff rfl rfl k2.le (fun i a o l h => st a o h) nf⟩
  · cases q : H1 a with
    | none => rfl
    | some u => rw [st a u q] at h; cases h
  · rcases fr a o h with z | z | z
    · exact .inl z
    · exact .inr (.inl z)
    · exact .inr (.inr (.inl z))
end
structure MkC (M : Mx) (x : Str) (Ci : Nat) (ps : List Str) (k : Nat) (dfl : List D) (C : Con) : Prop where
  gC : M.mg x = some (.ref (M.ca Ci))
  ex : ∃ f fd dvs dus, Mk M.K (M.ca Ci) f ∧ FnOk M.P M.w M.K M.mg M.base (L2.CX M.P M.w) k f fd ps (spC M C) ∧ Binds M.K fd ps dus ∧ Vals dvs dus ∧ ∀ F m, RepL M F m dvs dfl
section
variable {CX : CXT} {f C : Addr} {fd : FuncData} {sp : Sp} {dvs : List V} {ds : List Value} {E : St → XK} {t : TA}
def tMakeS (C : Addr) (sp : Sp) (dvs : List V) (E : St → XK) (t : TA) : TE := fun σ H Q => t σ H fun vs H1 => ∀ x dx, H1 x = none → H1 dx = none → dx ≠ x →
  sp (.ref x :: (vs ++ dvs)) (upd (upd H1 dx (.own x)) x (.ins C dx [])) (fun v H2 => v = .non ∧ Q (.ref x) H2) (E σ)
theorem run_makeS {pins : List (Addr × Obj)} {σ : St} {H : Hp} {s : Shared} {Q : VK} {us : List Value} {vs : List V} (M : Mk X.K C f) (F : FnOk X.prog X.w X.K X.mg X.base CX k f fd ps sp) (hr : Room (k + 1) X.A) (hb : Binds X.K fd ps ds) (hd : Vals dvs ds)
    (hx : PassesAt CX X σ (E σ)) (I : Inv X pins σ H s) (r : Vals vs us)
    (h : ∀ x dx, H x = none → H dx = none → dx ≠ x → sp (.ref x :: (vs ++ dvs)) (upd (upd H dx (.own x)) x (.ins C dx [])) (fun v H2 => v = .non ∧ Q (.ref x) H2) (E σ)) :
    wpAny (model X.prog X.w) X.A (call (.ref C) us) (EP X pins σ Q) X.xe s := by
  have hq := h (s.heap.objs.size + 1) s.heap.objs.size (I.hok.fresh (Nat.le_succ _)) (I.hok.fresh (Nat.le_refl _)) (Nat.ne_of_lt (Nat.lt_succ_self _))
  have I2 := Inv.made (C := C) I
  have r2 : Vals (V.ref (s.heap.objs.size + 1) :: (vs ++ dvs)) (Value.ref (s.heap.objs.size + 1) :: (us ++ ds)) := .cons rfl (r.append hd)
  have hl : (Value.ref (s.heap.objs.size + 1) :: us ++ ds).length = ps.length := by
    have e := r2.length
    rw [F.len _ _ _ _ hq] at e
    exact e.symm
  refine wpAny_call (make_map (f := f) I.kIn M.makes M.init (beq_iff_eq.mp M.fn) (codeAny_mono (F.run _ X.stack _ _ ⟨Value.ref (s.heap.objs.size + 1) :: us, []⟩ (Value.ref (s.heap.objs.size + 1) :: (us ++ ds)) _ _ (E σ) (hr.make C us [])
    (I2.env0.make C us []) (hb _ (Value.ref (s.heap.objs.size + 1) :: us) I2.kIn hl) r2 hq) fun r s' hq' => ?_))
  cases r with
  | error e => exact hx pins _ _ e s' I2 hq'
  | ok fl =>
    cases fl with
    | ret u =>
      obtain ⟨v, H', I3, rv, ev, q3⟩ := I2.after hq'
      subst ev
      exact ⟨rv, ⟨V.ref (s.heap.objs.size + 1), H', I3, rfl, q3⟩⟩
    | next => exact False.elim hq'
    | brk => exact False.elim hq'
    | cont => exact False.elim hq'
theorem pe_makeS (M : Mk X.K C f) (F : FnOk X.prog X.w X.K X.mg X.base CX k f fd ps sp) (hr : Room (k + 1) X.A) (hg : Gl X x) (hm : X.mg x = some (.ref C)) (hb : Binds X.K fd ps ds) (hd : Vals dvs ds) (hx : ∀ σ, PassesAt CX X σ (E σ))
    (ha : PA X (e :: es) t) (hdb : (x == ("__debug__" : Str)) = false) (he : starEach (e :: es) X.env = (false, eval e X.env) :: starEach es X.env) (hpl : (backTo pos (starEach es X.env)).any (·.1) = false) :
    PE X (.Call (.Name x p) (e :: es) [] pos) (tMakeS C sp dvs E t) := by
  refine ⟨fun pins s σ H Q I h => ?_⟩
  refine wpAny_Call_Name_kw (ld_glob I hg hm ?_ hdb)
  refine PySem.W.callWith_K (h₀ := X.base) I.ok.mod.kin M.kp (thn (ha.run pos pins s σ H _ I h) fun us s1 ⟨vs, H1, I1, r, q⟩ => ⟨I1.kIn, ?_⟩) he hpl
  exact run_makeS M F hr hb hd (hx σ) I1 r q
end
theorem fx_mk {Ci : Nat} {dfl : List D} (F : MkC M x Ci ps k' dfl C) (hb : Bx X M N sc k G.W) (hk : k' + 1 ≤ k) (hg : sc.names.lookup x = some .globalImplicit) (hdb : (x == ("__debug__" : Str)) = false) (he : starEach (e :: es) X.env = (false, eval e X.env) :: starEach es X.env) (hpl : (backTo pos (starEach es X.env)).any (·.1) = false)
    (h : AX X M G (e :: es) ρ hc fun ds h' => nrL (ds ++ dfl) = true ∧ C (.ref 0 :: (ds ++ dfl)) [some (.ins Ci [])] (fun f d h2 => f = false ∧ d = .non ∧ ∃ fs, h2 = [some (.ins Ci fs)] ∧ nrF fs = true ∧ PF true (.ins Ci fs) h') fun c pl _ => nrPl pl = true ∧ G.PX c pl ρ h') : FX X M G (.Call (.Name x p) (e :: es) [] pos) ρ hc PF := by
  obtain ⟨f, fd, dvs, dus, M1, F1, F4, F5, F6⟩ := F.ex
  have gC := F.gC
  rw [← hb.hP, ← hb.hw, ← hb.hK, ← hb.hmg, ← hb.hbase] at F1
  rw [← hb.hmg] at gC
  rw [← hb.hK] at M1 F4
  refine .of (pe_makeS M1 F1 (hb.room.mono hk) (hb.gl hg) gC F4 F5 (fun σ => passAt hb.tk σ) pa_rd hdb he hpl) fun σ w H Q eh wk sk xc q => ?_
  refine h σ w H _ eh wk sk xc fun ds vs w1 H1 pd e1 k1 r1 y dy hy hdy ne => ?_
  have fy := le_none k1.le hy
  have fdy := le_none k1.le hdy
  have hw : WOk M (⟨w1.F, [y], [some (.ins Ci [])]⟩ : Wd) (upd (upd H1 dy (.own y)) y (.ins (M.ca Ci) dy [])) := by
    refine ⟨fun a o h => (((k1.le a o h).upd (ne_of_none h fdy)).upd (ne_of_none h fy)), rfl, fun i d h => ?_, fun i j a l1 l2 => ?_⟩
    · cases i with
      | zero =>
        simp at h; subst h
        exact ⟨y, _, rfl, fy, upd_same, rfl, .nil⟩
      | succ i => simp at h
    · obtain ⟨⟨_, h1⟩, _⟩ := l1
      obtain ⟨⟨_, h2⟩, _⟩ := l2
      cases i with
      | zero => cases j with
        | zero => rfl
        | succ j => simp at h2
      | succ i => simp at h1
  have rl : RepL M w1.F [y] (.ref y :: (vs ++ dvs)) (.ref 0 :: (ds ++ dfl)) := .cons (.ref rfl) (repL_nr (m := w1.m) (r1.append (F6 _ _)) pd.1)
  refine ⟨⟨w1.F, [y], [some (.ins Ci [])]⟩, _, _, _, hw, rl, pd.2, fun f d v w2 H2 hp e2 k2 r2 => ?_, fun c pl dd w2 H2 hp e2 k2 r2 => ?_⟩
  · obtain ⟨rfl, rfl, fs, hh, hn, pf⟩ := hp
    obtain ⟨e3, k3⟩ := one_back (o1 := .own y) k1 hy hdy ne (fun vs z => by cases z) k2 e2
    refine ⟨Rep.non_inv r2, ?_⟩
    obtain ⟨a, u, ha, fa, hu, c⟩ := k2.al 0 (.ins Ci fs) (by rw [hh]; rfl)
    rw [e2.mm 0 y rfl] at ha; cases ha
    refine q true _ _ { w1 with F := w2.F } H2 pf (e1.trans e3) k3 (RR.back e1 ⟨rfl, y, u, rfl, hu, fa, fun i l => ?_, .inl hy, cont_nr c (by simpa [okCell, D.nr] using hn)⟩)
    obtain ⟨⟨d', h'⟩, ha⟩ := l
    obtain ⟨a', u', h1, h2, h3, h4⟩ := k1.al i d' h'
    have ha : w1.m[i]? = some y := ha
    rw [ha] at h1; cases h1
    rw [hy] at h3; cases h3
  · obtain ⟨e3, k3⟩ := one_back (o1 := .own y) k1 hy hdy ne (fun vs z => by cases z) k2 e2
    exact xc c pl dd { w1 with F := w2.F } H2 hp.2 (e1.trans e3) k3 (pl_back hp.1 r2)
end
end Yl

set_option maxRecDepth 100000
set_option maxHeartbeats 4000000
/-! Y11z: one cell handed over. -/
namespace Yl
open PySem PySem.Spec PyProof.Rows L2
section
variable {M : Mx} {w w2 : Wd} {H H2 : Hp} {j : Nat} {a : Addr} {d0 d2 : D} {u0 : HO}
abbrev Wd.one (w : Wd) (a : Addr) (d : D) : Wd := ⟨w.F, [a], [some d]⟩
theorem one_live {i : Nat} {b : Addr} (l : Live (w.one a d0) i b) : i = 0 ∧ b = a := by
  obtain ⟨⟨d, h⟩, h2⟩ := l
  cases i with
  | zero => simp at h2; exact ⟨rfl, h2.symm⟩
  | succ i => simp at h
/-- the world of the cell j alone -/
theorem wok_one (k : WOk M w H) (hj : w.h[j]? = some (some d0)) (ha : w.m[j]? = some a) (hc : okCell d0 = true) : WOk M (w.one a d0) H := by
  refine ⟨k.le, rfl, fun i d h => ?_, fun i l b x y => by rw [(one_live x).1, (one_live y).1]⟩
  cases i with
  | zero =>
    simp at h; subst h
    obtain ⟨a', u, h1, h2, h3, h4⟩ := k.al j d0 hj
    rw [ha] at h1; cases h1
    exact ⟨a, u, rfl, h2, h3, cont_nr h4 hc⟩
  | succ i => simp at h
/-- .. and back: the cell has the content d2 -/
theorem one_put (k : WOk M w H) (hj : w.h[j]? = some (some d0)) (ha : w.m[j]? = some a) (k2 : WOk M w2 H2) (e : Ext (w.one a d0) H w2 H2) (h2 : w2.h[0]? = some (some d2)) (hc : okCell d2 = true) :
    Ext w H { w with F := w2.F, h := w.h.set j (some d2) } H2 ∧ WOk M { w with F := w2.F, h := w.h.set j (some d2) } H2 := by
  have la : Live w j a := ⟨⟨d0, hj⟩, ha⟩
  obtain ⟨a', u2, q1, q2, q3, q4⟩ := k2.al 0 d2 h2
  rw [e.mm 0 a rfl] at q1; cases q1
  have st : ∀ b u, H b = some u → b ≠ a → H2 b = some u := fun b u h n => e.hh b u h fun i l => n (one_live l).2
  have nf : ∀ i b, Live w i b → w2.F b = none := fun i b l => by
    by_cases hb : b = a
    · subst hb; exact q2
    · obtain ⟨⟨d, h⟩, hm⟩ := l
      obtain ⟨b', u, z1, z2, z3, z4⟩ := k.al i d h
      rw [hm] at z1; cases z1
      cases q : w2.F b with
      | none => rfl
      | some o =>
        rcases e.fr b o q with z | z | ⟨vs, z⟩ | ⟨i, z⟩
        · have z : w.F b = some o := z
          rw [z2] at z; cases z
        · rw [z3] at z; cases z
        · rw [z3] at z; cases z; exact absurd z4 cell_notup
        · exact absurd (one_live z).2 hb
  have lv : ∀ i b, Live ({ w with F := w2.F, h := w.h.set j (some d2) } : Wd) i b → Live w i b := fun i b l => live_put (w := w) (o := some d2) l ⟨d0, hj⟩
  refine ⟨⟨e.ff, fun _ _ h => h, fun b u h n => st b u h fun q => n j (by rw [q]; exact la), e.nn, fun b o h => ?_, fun i b l => .inl ⟨i, lv i b l⟩⟩, ⟨k2.le, by simp [k.lm], fun i d h => ?_, fun i l b x y => k.inj i l b (lv i b x) (lv l b y)⟩⟩
  · rcases e.fr b o h with z | z | z | ⟨i, z⟩
    · exact .inl z
    · exact .inr (.inl z)
    · exact .inr (.inr (.inl z))
    · have := (one_live z).2
      subst this
      exact .inr (.inr (.inr ⟨j, la⟩))
  · have h : (w.h.set j (some d2))[i]? = some (some d) := h
    by_cases hi : j = i
    · subst hi
      rw [List.getElem?_set_self (List.getElem?_eq_some_iff.mp hj).1] at h
      cases h
      exact ⟨a, u2, ha, q2, q3, cont_nr q4 hc⟩
    · rw [List.getElem?_set_ne hi] at h
      obtain ⟨b, u, z1, z2, z3, z4⟩ := k.al i d h
      have nb : b ≠ a := fun q => hi (k.inj j i a la ⟨⟨d, h⟩, by rw [← q]; exact z1⟩)
      exact ⟨b, u, z1, nf i b ⟨⟨d, h⟩, z1⟩, st b u z3 nb, z4.mono e.ff fun _ _ z => z⟩
end
section
variable {X : Cx} {M : Mx} {N : List Str} {sc : Scope} {k k' : Nat} {G : Gx} {ρ : Env} {hc : Hc} {PF : Bool → D → Hc → Prop} {e : Expr} {es : List Expr} {x : Str} {pos p : Pos} {ps : List Str} {C : Con}
/-- f(c, ..), c the only cell handed over -/
theorem fx_callZ {j : Nat} (F : FnC M x ps k' C) (hb : Bx X M N sc k G.W) (hk : k' ≤ k) (hg : sc.names.lookup x = some .globalImplicit) (hdb : (x == ("__debug__" : Str)) = false) (he : starEach (e :: es) X.env = (false, eval e X.env) :: starEach es X.env) (hpl : (backTo pos (starEach es X.env)).any (·.1) = false)
    (h : AX X M G (e :: es) ρ hc fun ds h' => ∃ ds' d0, ds = .ref j :: ds' ∧ nrL ds' = true ∧ h'[j]? = some (some d0) ∧ okCell d0 = true ∧ C (.ref 0 :: ds') [some d0] (fun f d h2 => f = false ∧ d.nr = true ∧ ∃ d2, h2 = [some d2] ∧ okCell d2 = true ∧ PF false d (h'.set j (some d2))) fun c pl h2 => nrPl pl = true ∧ ∃ d2, h2 = [some d2] ∧ okCell d2 = true ∧ G.PX c pl ρ (h'.set j (some d2))) : FX X M G (.Call (.Name x p) (e :: es) [] pos) ρ hc PF := by
  obtain ⟨f, fd, F1, F2, F3, F4⟩ := F.ex
  rw [← hb.hP, ← hb.hw, ← hb.hK, ← hb.hmg, ← hb.hbase] at F1
  rw [← hb.hmg] at F2
  rw [← hb.hK] at F3 F4
  refine .of (pe_callS F1 (hb.room.mono hk) (hb.gl hg) F2 F3 F4 (fun σ => passAt hb.tk σ) pa_rd hdb he hpl) fun σ w H Q eh wk sk xc q => ?_
  refine h σ w H _ eh wk sk xc fun ds vs w1 H1 pd e1 k1 r1 => ?_
  obtain ⟨ds', d0, rfl, hn, hj, hok, pd⟩ := pd
  obtain ⟨v, us, rfl, r2, r3⟩ := r1.cons_inv
  obtain ⟨a, ha, rfl⟩ := r2.ref_inv
  refine ⟨w1.one a d0, .ref 0 :: ds', _, _, wok_one k1 hj ha hok, .cons (.ref rfl) (repL_nr r3 hn), pd, fun f d v w2 H2 hp e2 k2 rr => ?_, fun c pl dd w2 H2 hp e2 k2 rp => ?_⟩
  · obtain ⟨rfl, hnd, d2, h2, ho2, pf⟩ := hp
    obtain ⟨e3, k3⟩ := one_put k1 hj ha k2 e2 (by rw [h2]; rfl) ho2
    exact q false d v { w1 with F := w2.F, h := w1.h.set j (some d2) } H2 pf (e1.trans e3) k3 (rep_nr rr hnd)
  · obtain ⟨hnp, d2, h2, ho2, pf⟩ := hp
    obtain ⟨e3, k3⟩ := one_put k1 hj ha k2 e2 (by rw [h2]; rfl) ho2
    refine xc c pl dd { w1 with F := w2.F, h := w1.h.set j (some d2) } H2 pf (e1.trans e3) k3 ?_
    cases pl with
    | none => exact rp
    | some fs =>
      obtain ⟨dx, vs, z1, z2, z3⟩ := rp
      exact ⟨dx, vs, z1, z2, frs_nr z3 hnp⟩
end
/-- what _law_draw keeps: a number below n, the cell as it was told -/
def conDraw : Con := fun ds h P _ => ∃ n : Nat, ds = [.ref 0, .int n] ∧ h = [some .zz] ∧ 0 < n ∧ n < 1000000000 ∧ ∀ i : Nat, i < n → P false (.int i) [some .zz]
end Yl

set_option maxRecDepth 100000
set_option maxHeartbeats 4000000
/-! Y12: the program's text against the small language: a check, and what it is good for. -/
namespace Yl
open PySem PySem.Spec PyProof.Rows L2
/-! ### forms of the text -/
def noStar : Expr → Bool
  | .Starred _ _ => false
  | _ => true
def noSet : Expr → Bool
  | .Set _ _ _ => false
  | _ => true
def noSlice : Expr → Bool
  | .Slice _ _ _ _ => false
  | _ => true
def noComp : Expr → Bool
  | .ListComp _ _ _ _ => false
  | .SetComp _ _ _ _ => false
  | .DictComp _ _ _ _ _ => false
  | _ => true
def noCall0 : Expr → Bool
  | .Call _ [] _ _ => false
  | _ => true
def noTest : Expr → Bool
  | .UnaryOp _ _ _ => false
  | .BoolOp _ _ _ => false
  | .IfExp _ _ _ _ => false
  | .Compare _ _ _ _ => false
  | _ => true
theorem star_cons {e : Expr} (es : List Expr) {env : PySem.Env} (h : noStar e = true) : starEach (e :: es) env = (false, eval e env) :: starEach es env := by
  cases e <;> first | rfl | cases h
theorem star_all {es : List Expr} {env : PySem.Env} {pos : Pos} (h : es.all noStar = true) : (backTo pos (starEach es env)).any (·.1) = false := by
  induction es with
  | nil => rfl
  | cons e es ih =>
    rw [List.all_cons, Bool.and_eq_true_iff] at h
    rw [star_cons es h.1]
    show (false || _) = false
    exact ih h.2
theorem star_one {e : Expr} {env : PySem.Env} (h : noStar e = true) : starEach [e] env = [(false, eval e env)] := star_cons [] h
theorem mark_no {op : CmpOp} {e : Expr} (h : noSet e = true) : behindInMarks op e = false := by
  cases e <;> first | rfl | cases h
theorem fold_no {e : Expr} {env : PySem.Env} (h : noSet e = true) : ∀ x, foldedSetIterable e env x = pure x := by
  intro x
  cases e <;> first | rfl | cases h
theorem ix_no {e : Expr} (h : noSlice e = true) : PlainIx e := by
  intro o i
  cases e <;> first | rfl | cases h
theorem swap_no {e : Expr} {t : Option Expr} {l : Nat} {env : PySem.Env} (h : noComp e = true) : swapsWith e t l env = pure false := by
  cases e <;> first | rfl | cases h
theorem base_no {e : Expr} {m : Str} {env : PySem.Env} {w : Sem Value} (h : noCall0 e = true) : attributeBase e m env w = w := by
  cases e with
  | Call f args kw pos =>
    cases args with
    | nil => cases h
    | cons a args => cases f <;> rfl
  | _ => rfl
theorem test_no {e : Expr} {env : PySem.Env} (h : noTest e = true) : ∀ whole, isTrue e env whole = (do let v ← whole; standAt e.pos; holding [v] (truthy v)) := by
  intro whole
  cases e <;> first | rfl | cases h
theorem assign_no {o i : Expr} {pos : Pos} {env : PySem.Env} (h : noSlice i = true) : ∀ v, assign (.Subscript o i pos) env v = (do
      let ov ← holding [v] (eval o env)
      let iv ← holding [v, ov] (eval i env)
      standAt pos
      holding [v, ov, iv] (setItem ov iv v)
      release [v, ov, iv] []) := by
  intro v
  cases i <;> first | rfl | cases h
theorem sole_no {e t : Expr} {l : Nat} {env : PySem.Env} (h : noComp e = true) : swapsWithSole [t] e l env = pure false := swap_no h
theorem stores_no {o i e : Expr} {pos : Pos} {env : PySem.Env} : swappedStores [.Subscript o i pos] e env = pure none := by
  cases e <;> rfl
def kindV (sc : Scope) (x : Str) : Bool := match sc.names.lookup x with
  | some .local => true
  | some .cell => true
  | some .free => true
  | _ => false
def kindS (sc : Scope) (x : Str) : Bool := match sc.names.lookup x with
  | some .local => true
  | some .cell => true
  | _ => false
def kindG (sc : Scope) (x : Str) : Bool := decide (sc.names.lookup x = some .globalImplicit)
theorem kindV_ok {sc : Scope} {x : Str} (h : kindV sc x = true) : Vis sc x := by
  unfold kindV at h
  split at h
  · exact .inl (by assumption)
  · exact .inr (.inl (by assumption))
  · exact .inr (.inr (by assumption))
  · cases h
theorem kindS_ok {X : Cx} {sc : Scope} {x : Str} (fn : ∀ x, X.fn x = true) (h : kindS sc x = true) : Sto X sc x := by
  unfold kindS at h
  split at h
  · exact .inl (by assumption)
  · exact .inr ⟨by assumption, fn x⟩
  · cases h
def nmB (x : Str) : Bool := !(x == ("__debug__" : Str)) && !(x == ("__classdict__" : Str)) && !decide (x = "__name__")
theorem nmB_ok {x : Str} (h : nmB x = true) : (x == ("__debug__" : Str)) = false ∧ (x == ("__classdict__" : Str)) = false ∧ x ≠ "__name__" := by
  unfold nmB at h
  simp only [Bool.and_eq_true, Bool.not_eq_true', decide_eq_false_iff_not] at h
  exact ⟨h.1.1, h.1.2, h.2⟩
def bopOf : Operator → Option O2
  | .Add => some .add
  | .Sub => some .sub
  | .Mult => some .mul
  | .FloorDiv => some .fdiv
  | .Mod => some .mod
  | .Pow => some .pow
  | _ => none
def copOf : CmpOp → Option O2
  | .Lt => some .lt
  | .LtE => some .le
  | .Gt => some .gt
  | .GtE => some .ge
  | .Eq => some .eq
  | .NotEq => some .ne
  | .Is => some .isN
  | .IsNot => some .notN
  | .In => some .isin
  | .NotIn => some .nin
theorem bop_ok {op : Operator} {o : O2} (h : bopOf op = some o) : opOf o = binaryOp op ∧ o ≠ .ix := by
  cases op <;> cases h <;> exact ⟨rfl, fun z => nomatch z⟩
theorem cop_ok {op : CmpOp} {o : O2} (h : copOf op = some o) : opOf o = compareOp op ∧ o ≠ .ix := by
  cases op <;> cases h <;> exact ⟨rfl, fun z => nomatch z⟩
theorem cop_bl {op : CmpOp} {o : O2} {hh : Hc} {x y d : D} {f : Bool} (h : copOf op = some o) (e : op2 hh o x y = some (f, d)) : ∃ b, f = false ∧ d = .bl b := by
  cases op <;> cases h
  all_goals first
    | (have e : (inD x (deref hh y)).map _ = some (f, d) := e
       cases q : inD x (deref hh y) with
       | none => rw [q] at e; cases e
       | some b => rw [q] at e; cases e; exact ⟨_, rfl, rfl⟩)
    | skip
  all_goals
    simp only [op2, o_lt, o_le, o_gt, o_ge, o_eq, o_ne, o_isN, o_notN] at e
    split at e <;> first | (cases e; done) | (cases e; exact ⟨_, rfl, rfl⟩)
/-! ### tables -/
structure Lw where
  pg : Pg
  fnm : List (Option Str)
  gnm : List (Option Str)
  free : List Str
  plain : List Nat
  noat : List (Nat × Tx)
  cnm : List (Nat × Str)
  exc0 : List Nat
  exc1 : List (Nat × Tx)
  exm : List (Nat × Nat × Bool)
  xf : List (Nat × Tx)
  dr : Bool
/-- what the head says of the module -/
structure Fac (M : Mx) (L : Lw) : Prop where
  gl : ∀ g x, L.gnm[g]? = some (some x) → ∃ v u, M.mg x = some u ∧ RelV v u ∧ ∀ F m, Rep M F m v (L.pg.gls.getD g .non)
  free : ∀ x, x ∈ L.free → M.mg x = none
  plain : ∀ C, C ∈ L.plain → Cls M.K (M.ca C)
  noat : ∀ p, p ∈ L.noat → NoAttr M.K (M.ca p.1) (ts p.2)
  cnm : ∀ p, p ∈ L.cnm → M.mg p.2 = some (.ref (M.ca p.1))
  exc0 : ∀ C, C ∈ L.exc0 → ∀ x, (C, x) ∈ L.cnm → ExcT M C x
  exc1 : ∀ p, p ∈ L.exc1 → ∀ x, (p.1, x) ∈ L.cnm → ExcI M p.1 x (ts p.2) 1
  exm : ∀ p, p ∈ L.exm → PySem.W.exmOne M.K (.ref (M.ca p.1)) (.ref (M.ca p.2.1)) = some p.2.2
  xf : ∀ p, p ∈ L.xf → XfC M.K (M.ca p.1) ∧ PySem.W.findIn M.K (.ref (M.ca p.1)) (ts p.2) = some none
  isi : ∀ (C : Nat) (v : V), True
/-- the contract of the def f -/
def Cf (cl : Md) (f : Nat) (n : Nat) : Con := fun ds h P PX => ds.length = n ∧ (cl.run f ds h).good (fun p => P p.1 p.2.1 p.2.2) PX
/-- the defs that may be called, in room k -/
structure Cls2 (M : Mx) (L : Lw) (cl : Md) (k : Nat) : Prop where
  fn : ∀ f x, L.fnm[f]? = some (some x) → ∃ ps, FnC M x ps k (fun ds h P PX => (cl.run f ds h).good (fun p => P p.1 p.2.1 p.2.2) PX)
  draw : L.dr = true → ∃ ps, FnC M "_law_draw" ps k conDraw
  make : ∀ (j C f : Nat) (dfl : List D), L.pg.mks[j]? = some (C, f, dfl) → ∀ x, (C, x) ∈ L.cnm → ∃ ps, MkC M x C ps k dfl (fun ds h P PX => (cl.run f ds h).good (fun p => P p.1 p.2.1 p.2.2) PX)
/-! ### the check of expressions -/
abbrev CkE := Scope → E → Expr → Bool
def all2 {α β : Type} (f : α → β → Bool) : List α → List β → Bool
  | [], [] => true
  | a :: as, b :: bs => f a b && all2 f as bs
  | _, _ => false
section
variable (L : Lw) (N : List Str)
def slotV (sc : Scope) (i : Nat) (x : Str) : Bool := decide (N[i]? = some x) && (kindV sc x && nmB x)
def glob (sc : Scope) (x : Str) : Bool := kindG sc x && nmB x
def ckConst (d : D) (c : Const) : Bool := match d, c with
  | .non, .none => true
  | .bl a, .bool b => a == b
  | .int a, .int b => decide (a = b)
  | .str a, .str b => decide (b.cps.toList = a)
  | _, _ => false
def ckCst (d : D) : Expr → Bool
  | .Constant c _ _ => ckConst d c
  | .UnaryOp .USub (.Constant (.int j) _ _) _ => match d with
    | .int i => decide (i = -j)
    | _ => false
  | _ => false
def ckArgs (r : CkE) (sc : Scope) (es : List E) (as : List Expr) : Bool := all2 (r sc) es as && as.all noStar
def biNm : Bi → Str
  | .all => "all" | .any => "any" | .len => "len" | .int => "int" | .str => "str" | .list => "list" | .tuple => "tuple" | .sorted => "sorted" | .min => "min" | .max => "max" | .isi => "isinstance" | .dict => "dict"
def biIn : Bi → Bool
  | .all => true
  | .len => true
  | .int => true
  | .isi => true
  | .tuple => true
  | .list => true
  | .any => true
  | _ => false
def ckGens (r : CkE) (sc sc2 : Scope) (tg : List Nat) (tp : Bool) (k : Ik) (its : List E) : List Comprehension → Option (List Expr)
  | [⟨t, it, ifs, 0⟩] => none
  | _ => none
def ckTg (sc : Scope) (tg : List Nat) (tp : Bool) : Expr → Bool
  | .Name x _ => match tp, tg with
    | false, [i] => decide (N[i]? = some x) && decide (sc.names.lookup x = some .local)
    | _, _ => false
  | .Tuple ts _ _ => tp && all2 (fun i (e : Expr) => match e with | .Name x _ => decide (N[i]? = some x) && decide (sc.names.lookup x = some .local) | _ => false) tg ts && decide (tg.length ≤ 4)
  | _ => false
def ckIt (r : CkE) (sc : Scope) (k : Ik) (its : List E) (tgt : Expr) (it : Expr) : Bool := match k, its with
  | .lst, [e] => r sc e it && noSet it
  | .tup, [e] => r sc e it && noSet it
  | .str, [e] => r sc e it && noSet it
  | .rng, es => match it with
    | .Call (.Name x _) as [] _ => decide (x = "range") && (glob sc x && (L.free.contains "range" && (ckArgs r sc es as && decide (1 ≤ as.length ∧ as.length ≤ 2))))
    | _ => false
  | .zip, [a, b] => match it, tgt with
    | .Call (.Name x _) [u, v] [] _, .Tuple _ _ _ => decide (x = "zip") && (glob sc x && (L.free.contains "zip" && (ckArgs r sc [a, b] [u, v])))
    | _, _ => false
  | _, _ => false
def ownOf (tg : List Nat) : List (Str × Nat) := tg.map fun i => ((N[i]?).getD "", i)
def ckLc (r rt : CkE) (sc : Scope) (tg : List Nat) (tp : Bool) (k : Ik) (its cond : List E) (elt : E) : Expr → Bool
  | .ListComp e [⟨t, it, ifs, 0⟩] scope _ => blkC N sc scope (ownOf N tg) && (ckTg N (relS scope sc) tg tp t && (ckIt L r sc k its t it && (noSet it && (all2 (rt (relS scope sc)) cond ifs && (decide (ifs.length ≤ 1) && r (relS scope sc) elt e)))))
  | _ => false
def ckDc (r : CkE) (sc : Scope) (x : Nat) (ik : Ik) (it kx vx : E) : Expr → Bool
  | .DictComp k v [⟨t, i, [], 0⟩] scope _ => blkC N sc scope (ownOf N [x]) && (ckTg N (relS scope sc) [x] false t && ((match ik with | .tup => r sc it i | _ => false) && (noSet i && (r (relS scope sc) kx k && r (relS scope sc) vx v))))
  | _ => false
def ckSome (r : CkE) (sc : Scope) : Option E → Option Expr → Bool
  | none, none => true
  | some e, some a => r sc e a
  | _, _ => false
def ckE1 (r rt : CkE) (sc : Scope) (e : E) (a : Expr) : Bool := match e with
  | .var i => match a with | .Name x _ => slotV N sc i x | _ => false
  | .take i => match a with | .Name x _ => slotV N sc i x | _ => false
  | .cst d => ckCst d a
  | .gl g => match a with | .Name x _ => decide (L.gnm[g]? = some (some x)) && glob sc x | _ => false
  | .ty n => match a with | .Name x _ => decide (bootBuiltins x = some (.type (tyS n))) && (glob sc x && L.free.contains x) | _ => false
  | .op2 o x y => match a with
    | .BinOp l op w _ => decide (bopOf op = some o) && (r sc x l && r sc y w)
    | .Compare l [op] [w] _ => decide (copOf op = some o) && (r sc x l && (r sc y w && noSet w))
    | .Subscript l w _ => decide (o = .ix) && (r sc x l && (r sc y w && noSlice w))
    | _ => false
  | .not x => match a with | .UnaryOp .Not w _ => r sc x w | _ => false
  | .and xs => match a with | .BoolOp .And ws _ => all2 (r sc) xs ws | _ => false
  | .or xs => match a with | .BoolOp .Or ws _ => all2 (r sc) xs ws | _ => false
  | .ite c x y => match a with | .IfExp w u v _ => rt sc c w && (r sc x u && r sc y v) | _ => false
  | .chain o o' x y z => match a with | .Compare l [p, q] [u, v] _ => decide (copOf p = some o) && (decide (copOf q = some o') && (r sc x l && (r sc y u && (r sc z v && noSet v)))) | _ => false
  | .tup es => match a with | .Tuple as _ _ => ckArgs r sc es as && decide (es.length ≤ 1000) | _ => false
  | .lst es => match a with | .List as _ => ckArgs r sc es as && decide (es.length ≤ 1000) | _ => false
  | .bi b es => match a with | .Call (.Name x _) (u :: us) [] _ => biIn b && (decide (x = biNm b) && (glob sc x && (L.free.contains x && ckArgs r sc es (u :: us)))) | _ => false
  | .me m x es => match a with
    | .Call (.Attribute o n ap) [u] [] pos => match m, es with
      | .split, [y] => decide (n = "split") && (r sc x o && (r sc y u && (noStar u && (noCall0 o && (ap.endLine == pos.line)))))
      | .join, [y] => decide (n = "join") && (r sc x o && (r sc y u && (noStar u && (noCall0 o && (ap.endLine == pos.line)))))
      | .app, [y] => decide (n = "append") && (r sc x o && (r sc y u && (noStar u && (noCall0 o && (ap.endLine == pos.line)))))
      | _, _ => false
    | _ => false
  | .slice x lo hi => match a with | .Subscript w (.Slice l u none _) _ => r sc x w && (ckSome r sc lo l && ckSome r sc hi u) | _ => false
  | .call f es => match a with
    | .Call (.Name x _) (u :: us) [] _ => decide (L.fnm[f]? = some (some x)) && (glob sc x && ckArgs r sc es (u :: us))
    | _ => false
  | .lc tg tp k its cond elt => ckLc L N r rt sc tg tp k its cond elt a
  | .dc t x k it kx vx => !t && ckDc N r sc x k it kx vx a
  | .mk j es => match a with
    | .Call (.Name x _) (u :: us) [] _ => (match L.pg.mks[j]? with | some p => L.cnm.contains (p.1, x) | none => false) && (glob sc x && ckArgs r sc es (u :: us))
    | _ => false
  | .new x => r sc x a
  | .draw i n => match a with
    | .Call (.Name x _) [.Name y _, u] [] _ => L.dr && (decide (x = "_law_draw") && (glob sc x && (slotV N sc i y && (r sc n u && noStar u))))
    | _ => false
  | _ => false
def isOp2 : E → Bool
  | .op2 _ _ _ => true
  | _ => false
def isChain : E → Bool
  | .chain _ _ _ _ _ => true
  | _ => false
def ckT0 (r : CkE) (sc : Scope) (e : E) (a : Expr) : Bool := match a with
  | .Compare l [op] [w] p => r sc e (.Compare l [op] [w] p) && isOp2 e
  | .Compare l [p, q] [u, v] z => r sc e (.Compare l [p, q] [u, v] z) && isChain e
  | a => r sc e a && noTest a
def ckT1 (r rt : CkE) (sc : Scope) (e : E) (a : Expr) : Bool := match e with
  | .not x => match a with | .UnaryOp .Not w _ => rt sc x w | _ => false
  | .and xs => match a with | .BoolOp .And ws _ => all2 (rt sc) xs ws | _ => false
  | .or xs => match a with | .BoolOp .Or ws _ => all2 (rt sc) xs ws | _ => false
  | e => ckT0 r sc e a
def ckEE : Nat → CkE × CkE
  | 0 => (fun _ _ _ => false, fun _ _ _ => false)
  | n + 1 => (ckE1 L N (ckEE n).1 (ckEE n).2, ckT1 (ckE1 L N (ckEE n).1 (ckEE n).2) (ckEE n).2)
end
end Yl

set_option maxRecDepth 100000
set_option maxHeartbeats 4000000
/-! Y13: what is checked is computed: expressions. -/
namespace Yl
open PySem PySem.Spec PyProof.Rows L2
open T (good_bind)
def SE (M : Mx) (N : List Str) (k : Nat) (ck : CkE) (r : Ev) : Prop := ∀ (X : Cx) (sc : Scope) (G : Gx) (e : E) (a : Expr) (ρ : Env) (h : Hc) (PF : Bool → D → Hc → Prop), Bx X M N sc k G.W → ck sc e a = true → (r e ρ h).good (fun p => PF p.1 p.2.1 p.2.2) (fun c pl h' => G.PX c pl ρ h') → FX X M G a ρ h PF
def STe (M : Mx) (N : List Str) (k : Nat) (ck : CkE) (t : Et) : Prop := ∀ (X : Cx) (sc : Scope) (G : Gx) (e : E) (a : Expr) (ρ : Env) (h : Hc) (B : Bool → Hc → Prop), Bx X M N sc k G.W → ck sc e a = true → (t e ρ h).good (fun p => B p.1 p.2) (fun c pl h' => G.PX c pl ρ h') → TX X M G a ρ h B
section
variable {M : Mx} {L : Lw} {N : List Str} {k : Nat} {ck ckt : CkE} {r : Ev} {t : Et} {X : Cx} {sc : Scope} {G : Gx} {ρ : Env} {h : Hc} {PF : Bool → D → Hc → Prop} {P : D → Hc → Prop} {B : Bool → Hc → Prop}
theorem vl_ex (s : SE M N k ck r) {e : E} {a : Expr} (hb : Bx X M N sc k G.W) (c : ck sc e a = true) (g : (vl r e ρ h).good (fun p => P p.1 p.2) (fun c pl h' => G.PX c pl ρ h')) : EX X M G a ρ h P :=
  FX.ex (s X sc G e a ρ h (fun _ d h' => P d h') hb c (good_bind.mp g))
theorem vls_ax (s : SE M N k ck r) (hb : Bx X M N sc k G.W) : ∀ {es : List E} {as : List Expr} {h : Hc} {U : List D → Hc → Prop}, all2 (ck sc) es as = true → as.all noStar = true → (vls r es ρ h).good (fun p => U p.1 p.2) (fun c pl h' => G.PX c pl ρ h') → AX X M G as ρ h U
  | [], [], h, U, _, _, g => ax_nil g
  | [], _ :: _, h, U, c, _, _ => by cases c
  | _ :: _, [], h, U, c, _, _ => by cases c
  | e :: es, a :: as, h, U, c, st, g => by
    simp only [all2, Bool.and_eq_true_iff] at c
    rw [List.all_cons, Bool.and_eq_true_iff] at st
    refine ax_cons (star_cons as st.1) (vl_ex s hb c.1 (T.good_mono (fun p q => ?_) (fun _ _ _ q => q) (good_bind.mp g)))
    exact vls_ax s hb (U := fun ds h2 => U (p.1 :: ds) h2) c.2 st.2 (good_bind.mp q)
theorem part_ox (s : SE M N k ck r) (hb : Bx X M N sc k G.W) {oe : Option E} {oa : Option Expr} {P : Option Int → Hc → Prop} (c : ckSome ck sc oe oa = true) (g : (part r oe ρ h).good (fun p => P p.1 p.2) (fun c pl h' => G.PX c pl ρ h')) : OX X M G oa ρ h P := by
  cases oe with
  | none => cases oa with
    | none => exact ox_none g
    | some a => cases c
  | some e => cases oa with
    | none => cases c
    | some a =>
      refine ox_some (vl_ex s hb c (T.good_mono (fun p q => ?_) (fun _ _ _ q => q) (good_bind.mp g)))
      split at q
      · exact ⟨_, by assumption, q⟩
      · exact q.elim
theorem ot_good {h : Hc} {o : Option (Bool × D)} {PX : Nat → Pl → Hc → Prop} (g : (ot h o).good (fun p => PF p.1 p.2.1 p.2.2) PX) : ∃ f d, o = some (f, d) ∧ PF f d h := by
  cases o with
  | none => exact g.elim
  | some p => exact ⟨p.1, p.2, rfl, g⟩
theorem om_good {o : Option (Bool × D × Hc)} {PX : Nat → Pl → Hc → Prop} (g : (om o).good (fun p => PF p.1 p.2.1 p.2.2) PX) : ∃ f d h, o = some (f, d, h) ∧ PF f d h := by
  cases o with
  | none => exact g.elim
  | some p => exact ⟨p.1, p.2.1, p.2.2, rfl, g⟩
/-! ### operators -/
theorem s_op2' (s : SE M N k ck r) (hb : Bx X M N sc k G.W) {o : O2} {x y : E} {a : Expr} (c : ckE1 L N ck ckt sc (.op2 o x y) a = true) {Md : Md} (g : (e_op2 Md r t ρ h o x y).good (fun p => PF p.1 p.2.1 p.2.2) (fun c pl h' => G.PX c pl ρ h')) : FX X M G a ρ h PF := by
  have g1 := good_bind.mp g
  have two : ∀ {l w : Expr}, ck sc x l = true → ck sc y w = true → EX X M G l ρ h fun x h1 => EX X M G w ρ h1 fun y h2 => ∃ f d, op2 h2 o x y = some (f, d) ∧ PF f d h2 := fun c1 c2 =>
    vl_ex s hb c1 (T.good_mono (fun p q => vl_ex s hb c2 (T.good_mono (fun p2 q2 => ot_good q2) (fun _ _ _ q => q) (good_bind.mp q))) (fun _ _ _ q => q) g1)
  simp only [ckE1] at c
  split at c
  · simp only [Bool.and_eq_true, decide_eq_true_eq] at c
    obtain ⟨c1, c2, c3⟩ := c
    exact fx_bin (bop_ok c1).1 (bop_ok c1).2 hb (two c2 c3)
  · simp only [Bool.and_eq_true, decide_eq_true_eq] at c
    obtain ⟨c1, c2, c3, c4⟩ := c
    exact fx_cmp (cop_ok c1).1 (cop_ok c1).2 hb (mark_no c4) (two c2 c3)
  · simp only [Bool.and_eq_true, decide_eq_true_eq] at c
    obtain ⟨rfl, c2, c3, c4⟩ := c
    exact fx_ix hb (ix_no c4) (two c2 c3)
  · cases c
/-- a comparison as a test -/
theorem t_cmp (s : SE M N k ck r) (hb : Bx X M N sc k G.W) {o : O2} {x y : E} {l w : Expr} {op : CmpOp} {pos : Pos} (c : ckE1 L N ck ckt sc (.op2 o x y) (.Compare l [op] [w] pos) = true) {Md : Md}
    (g : ((e_op2 Md r t ρ h o x y).bind fun p => match tru p.2.2 p.2.1 with | some b => T.ok (b, p.2.2) | none => .no).good (fun p => B p.1 p.2) (fun c pl h' => G.PX c pl ρ h')) : TX X M G (.Compare l [op] [w] pos) ρ h B := by
  have g1 := good_bind.mp (good_bind.mp g)
  simp only [ckE1, Bool.and_eq_true, decide_eq_true_eq] at c
  obtain ⟨c1, c2, c3, c4⟩ := c
  refine tx_cmp (cop_ok c1).1 (cop_ok c1).2 hb (mark_no c4) (vl_ex s hb c2 (T.good_mono (fun p q => vl_ex s hb c3 (T.good_mono (fun p2 q2 => ?_) (fun _ _ _ q => q) (good_bind.mp q))) (fun _ _ _ q => q) g1))
  obtain ⟨f, d, e1, e2⟩ := ot_good (PF := fun f d h2 => (match tru h2 d with | some b => T.ok (b, h2) | none => .no : T (Bool × Hc)).good (fun p => B p.1 p.2) (fun c pl h' => G.PX c pl ρ h')) q2
  obtain ⟨b, rfl, rfl⟩ := cop_bl c1 e1
  exact ⟨b, e1, e2⟩
theorem s_chain' (s : SE M N k ck r) (hb : Bx X M N sc k G.W) {o o' : O2} {x y z : E} {a : Expr} (c : ckE1 L N ck ckt sc (.chain o o' x y z) a = true) {Md : Md} (g : (e_chain Md r t ρ h o o' x y z).good (fun p => PF p.1 p.2.1 p.2.2) (fun c pl h' => G.PX c pl ρ h')) : FX X M G a ρ h PF := by
  simp only [ckE1] at c
  split at c
  · simp only [Bool.and_eq_true, decide_eq_true_eq] at c
    obtain ⟨c1, c2, c3, c4, c5, c6⟩ := c
    refine EX.fx (ex_chain (cop_ok c1).1 (cop_ok c1).2 (cop_ok c2).1 (cop_ok c2).2 hb (fun ho ho' => pe_chain ho ho' pe_rd pe_rd pe_rd (mark_no c6)) ?_)
    refine vl_ex s hb c3 (T.good_mono (fun p q => vl_ex s hb c4 (T.good_mono (fun p2 q2 => ?_) (fun _ _ _ q => q) (good_bind.mp q))) (fun _ _ _ q => q) (good_bind.mp g))
    split at q2
    · rename_i f e
      obtain ⟨b, rfl, hb2⟩ := cop_bl c1 e
      cases hb2
      refine ⟨true, e, ?_⟩
      rw [if_pos rfl]
      refine vl_ex s hb c5 (T.good_mono (fun p3 q3 => ?_) (fun _ _ _ q => q) (good_bind.mp q2))
      obtain ⟨f, d, e1, e2⟩ := ot_good q3
      obtain ⟨b, rfl, rfl⟩ := cop_bl c2 e1
      exact ⟨_, e1, e2⟩
    · rename_i f e
      obtain ⟨b, rfl, hb2⟩ := cop_bl c1 e
      cases hb2
      refine ⟨false, e, ?_⟩
      rw [if_neg Bool.false_ne_true]
      exact q2
    · exact q2.elim
  · cases c
theorem t_chain (s : SE M N k ck r) (hb : Bx X M N sc k G.W) {o o' : O2} {x y z : E} {a : Expr} (c : ckE1 L N ck ckt sc (.chain o o' x y z) a = true) {Md : Md}
    (g : ((e_chain Md r t ρ h o o' x y z).bind fun p => match tru p.2.2 p.2.1 with | some b => T.ok (b, p.2.2) | none => .no).good (fun p => B p.1 p.2) (fun c pl h' => G.PX c pl ρ h')) : TX X M G a ρ h B := by
  simp only [ckE1] at c
  split at c
  · simp only [Bool.and_eq_true, decide_eq_true_eq] at c
    obtain ⟨c1, c2, c3, c4, c5, c6⟩ := c
    refine tx_chain (cop_ok c1).1 (cop_ok c1).2 (cop_ok c2).1 (cop_ok c2).2 hb (fun ho ho' => pt_chain ho ho' pe_rd pe_rd pe_rd (mark_no c6)) ?_
    refine vl_ex s hb c3 (T.good_mono (fun p q => vl_ex s hb c4 (T.good_mono (fun p2 q2 => ?_) (fun _ _ _ q => q) (good_bind.mp q))) (fun _ _ _ q => q) (good_bind.mp (good_bind.mp g)))
    split at q2
    · rename_i f e
      obtain ⟨b, rfl, hb2⟩ := cop_bl c1 e
      cases hb2
      refine ⟨true, e, ?_⟩
      rw [if_pos rfl]
      refine vl_ex s hb c5 (T.good_mono (fun p3 q3 => ?_) (fun _ _ _ q => q) (good_bind.mp q2))
      obtain ⟨f, d, e1, e2⟩ := ot_good (PF := fun f d h2 => (match tru h2 d with | some b => T.ok (b, h2) | none => .no : T (Bool × Hc)).good (fun p => B p.1 p.2) (fun c pl h' => G.PX c pl ρ h')) q3
      obtain ⟨b, rfl, rfl⟩ := cop_bl c2 e1
      exact ⟨_, e1, e2⟩
    · rename_i f e
      obtain ⟨b, rfl, hb2⟩ := cop_bl c1 e
      cases hb2
      refine ⟨false, e, ?_⟩
      rw [if_neg Bool.false_ne_true]
      exact q2
    · exact q2.elim
  · cases c
/-! ### and, or, not -/
theorem ex_notT {a : Expr} {pos : Pos} (hb : Bw X M N sc) (q : EX X M G a ρ h fun d h' => ∃ b, tru h' d = some b ∧ P (.bl !b) h') : EX X M G (.UnaryOp .Not a pos) ρ h P :=
  .of (pe_notT pe_rd) fun σ w H Q eh wk sk xc k => q σ w H _ eh wk sk xc fun d z w1 H1 p e1 k1 r1 => by
    obtain ⟨b, hb1, p⟩ := p
    exact ⟨b, by rw [hb.hK]; exact truV_of k1 r1 hb1, k _ _ w1 H1 p e1 k1 (.bl _)⟩
theorem ex_andT {a b : Expr} {es : List Expr} {pos : Pos} (hb : Bw X M N sc) (q : EX X M G a ρ h fun d h' => ∃ b', tru h' d = some b' ∧ if b' = true then EX X M G (.BoolOp .And (b :: es) pos) ρ h' P else P d h') : EX X M G (.BoolOp .And (a :: b :: es) pos) ρ h P :=
  .of (pe_andT pe_rd pe_rd) fun σ w H Q eh wk sk xc k => q σ w H _ eh wk sk xc fun d z w1 H1 p e1 k1 r1 => by
    obtain ⟨b', hb1, p⟩ := p
    refine ⟨b', by rw [hb.hK]; exact truV_of k1 r1 hb1, ?_⟩
    cases b' with
    | true =>
      rw [if_pos rfl] at p ⊢
      exact p σ w1 H1 _ rfl k1 (sk.ext e1) (xc.ext e1) fun d z w2 H2 p2 e2 k2 r2 => k d z w2 H2 p2 (e1.trans e2) k2 r2
    | false =>
      rw [if_neg Bool.false_ne_true] at p ⊢
      exact k d z w1 H1 p e1 k1 r1
theorem ex_orT {a b : Expr} {es : List Expr} {pos : Pos} (hb : Bw X M N sc) (q : EX X M G a ρ h fun d h' => ∃ b', tru h' d = some b' ∧ if b' = true then P d h' else EX X M G (.BoolOp .Or (b :: es) pos) ρ h' P) : EX X M G (.BoolOp .Or (a :: b :: es) pos) ρ h P :=
  .of (pe_orT pe_rd pe_rd) fun σ w H Q eh wk sk xc k => q σ w H _ eh wk sk xc fun d z w1 H1 p e1 k1 r1 => by
    obtain ⟨b', hb1, p⟩ := p
    refine ⟨b', by rw [hb.hK]; exact truV_of k1 r1 hb1, ?_⟩
    cases b' with
    | false =>
      rw [if_neg Bool.false_ne_true] at p ⊢
      exact p σ w1 H1 _ rfl k1 (sk.ext e1) (xc.ext e1) fun d z w2 H2 p2 e2 k2 r2 => k d z w2 H2 p2 (e1.trans e2) k2 r2
    | true =>
      rw [if_pos rfl] at p ⊢
      exact k d z w1 H1 p e1 k1 r1
theorem andV_ex (s : SE M N k ck r) (hb : Bx X M N sc k G.W) {pos : Pos} : ∀ {es : List E} {as : List Expr} {h : Hc}, all2 (ck sc) es as = true → (andV r es ρ h).good (fun p => PF p.1 p.2.1 p.2.2) (fun c pl h' => G.PX c pl ρ h') → EX X M G (.BoolOp .And as pos) ρ h fun d h' => PF false d h'
  | [], as, h, c, g => g.elim
  | _ :: _, [], h, c, g => by cases c
  | [e], [a], h, c, g => by
    simp only [all2, Bool.and_true] at c
    exact ex_one (vl_ex s hb c (T.good_mono (fun p q => q) (fun _ _ _ q => q) (good_bind.mp g)))
  | [e], a :: b :: as, h, c, g => by simp [all2] at c
  | e :: e2 :: es, [a], h, c, g => by simp [all2] at c
  | e :: e2 :: es, a :: b :: as, h, c, g => by
    have c' := c
    rw [all2, Bool.and_eq_true_iff] at c'
    refine ex_andT hb.toBw (vl_ex s hb c'.1 (T.good_mono (fun p q => ?_) (fun _ _ _ q => q) (good_bind.mp g)))
    split at q
    · rename_i e1
      refine ⟨true, e1, ?_⟩
      rw [if_pos rfl]
      exact andV_ex s hb c'.2 q
    · rename_i e1
      refine ⟨false, e1, ?_⟩
      rw [if_neg Bool.false_ne_true]
      exact q
    · exact q.elim
theorem orV_ex (s : SE M N k ck r) (hb : Bx X M N sc k G.W) {pos : Pos} : ∀ {es : List E} {as : List Expr} {h : Hc}, all2 (ck sc) es as = true → (orV r es ρ h).good (fun p => PF p.1 p.2.1 p.2.2) (fun c pl h' => G.PX c pl ρ h') → EX X M G (.BoolOp .Or as pos) ρ h fun d h' => PF false d h'
  | [], as, h, c, g => g.elim
  | _ :: _, [], h, c, g => by cases c
  | [e], [a], h, c, g => by
    simp only [all2, Bool.and_true] at c
    exact ex_one (vl_ex s hb c (T.good_mono (fun p q => q) (fun _ _ _ q => q) (good_bind.mp g)))
  | [e], a :: b :: as, h, c, g => by simp [all2] at c
  | e :: e2 :: es, [a], h, c, g => by simp [all2] at c
  | e :: e2 :: es, a :: b :: as, h, c, g => by
    have c' := c
    rw [all2, Bool.and_eq_true_iff] at c'
    refine ex_orT hb.toBw (vl_ex s hb c'.1 (T.good_mono (fun p q => ?_) (fun _ _ _ q => q) (good_bind.mp g)))
    split at q
    · rename_i e1
      refine ⟨false, e1, ?_⟩
      rw [if_neg Bool.false_ne_true]
      exact orV_ex s hb c'.2 q
    · rename_i e1
      refine ⟨true, e1, ?_⟩
      rw [if_pos rfl]
      exact q
    · exact q.elim
theorem andT_wx (s : STe M N k ckt t) (hb : Bx X M N sc k G.W) {pos : Pos} : ∀ {es : List E} {as : List Expr} {h : Hc}, all2 (ckt sc) es as = true → (andT t es ρ h).good (fun p => B p.1 p.2) (fun c pl h' => G.PX c pl ρ h') → WXX X M G (.BoolOp .And as pos) ρ h B
  | [], as, h, c, g => g.elim
  | _ :: _, [], h, c, g => by cases c
  | [e], [a], h, c, g => by
    simp only [all2, Bool.and_true] at c
    exact wx_and1 (s X sc G e a ρ h B hb c g)
  | [e], a :: b :: as, h, c, g => by simp [all2] at c
  | e :: e2 :: es, [a], h, c, g => by simp [all2] at c
  | e :: e2 :: es, a :: b :: as, h, c, g => by
    have c' := c
    rw [all2, Bool.and_eq_true_iff] at c'
    refine wx_and (s X sc G e a ρ h _ hb c'.1 (T.good_mono (fun p q => ?_) (fun _ _ _ q => q) (good_bind.mp g)))
    refine ⟨fun e1 => ?_, fun e1 => ?_⟩
    · rw [if_pos e1] at q
      exact andT_wx s hb c'.2 q
    · rw [if_neg (by rw [e1]; exact Bool.false_ne_true)] at q
      exact q
theorem orT_wx (s : STe M N k ckt t) (hb : Bx X M N sc k G.W) {pos : Pos} : ∀ {es : List E} {as : List Expr} {h : Hc}, all2 (ckt sc) es as = true → (orT t es ρ h).good (fun p => B p.1 p.2) (fun c pl h' => G.PX c pl ρ h') → WXX X M G (.BoolOp .Or as pos) ρ h B
  | [], as, h, c, g => g.elim
  | _ :: _, [], h, c, g => by cases c
  | [e], [a], h, c, g => by
    simp only [all2, Bool.and_true] at c
    exact wx_or1 (s X sc G e a ρ h B hb c g)
  | [e], a :: b :: as, h, c, g => by simp [all2] at c
  | e :: e2 :: es, [a], h, c, g => by simp [all2] at c
  | e :: e2 :: es, a :: b :: as, h, c, g => by
    have c' := c
    rw [all2, Bool.and_eq_true_iff] at c'
    refine wx_or (s X sc G e a ρ h _ hb c'.1 (T.good_mono (fun p q => ?_) (fun _ _ _ q => q) (good_bind.mp g)))
    refine ⟨fun e1 => ?_, fun e1 => ?_⟩
    · rw [if_neg (by rw [e1]; exact Bool.false_ne_true)] at q
      exact orT_wx s hb c'.2 q
    · rw [if_pos e1] at q
      exact q
end
end Yl

set_option maxRecDepth 100000
set_option maxHeartbeats 4000000
/-! Y14: built-ins. -/
namespace Yl
open PySem PySem.Spec PyProof.Rows L2
open T (good_bind)
theorem kit_ok (K : PySem.W.Frag) (m n : Nat) (hm : m ≤ 6) (h1 : 1 ≤ n) (h2 : n ≤ 6) : PySem.W.kitOne K (.type (tyS m)) (.type (tyS n)) = some (if Nat.beq n 2 then (Nat.beq m 2 || Nat.beq m 1) else Nat.beq m n) := by
  have em : m = 0 ∨ m = 1 ∨ m = 2 ∨ m = 3 ∨ m = 4 ∨ m = 5 ∨ m = 6 := by omega
  have en : n = 1 ∨ n = 2 ∨ n = 3 ∨ n = 4 ∨ n = 5 ∨ n = 6 := by omega
  rcases em with rfl | rfl | rfl | rfl | rfl | rfl | rfl <;> rcases en with rfl | rfl | rfl | rfl | rfl | rfl <;> first | rfl | kernel_rfl
theorem callr_or {X : Cx} {f : Value} {r r' : List V → Hp → VK → Prop} (a : CallR X f r) (b : CallR X f r') : CallR X f (fun xs H Q => r xs H Q ∨ r' xs H Q) := fun pins s σ H xs us Q I rv h => h.elim (a pins s σ H xs us Q I rv) (b pins s σ H xs us Q I rv)
abbrev rLen1 (K : PySem.W.Frag) : List V → Hp → VK → Prop := fun xs H Q => ∃ x n, xs = [x] ∧ LenV K x H n ∧ Q (.int n) H
abbrev rLenK : List V → Hp → VK → Prop := fun xs H Q => ∃ (a : Addr) (kvs : List (Key × V)), xs = [V.ref a] ∧ Rd H a (.dK kvs) ∧ Q (.int kvs.length) H
abbrev rLenT' : List V → Hp → VK → Prop := fun xs H Q => ∃ (a : Addr) (kvs : List (List Key × V)), xs = [V.ref a] ∧ Rd H a (.dT kvs) ∧ Q (.int kvs.length) H
theorem call_lenK {X : Cx} : CallR X (.builtin "len") rLenK := by
  intro pins s σ H xs us Q I r h
  obtain ⟨a, kvs, rfl, ha, q⟩ := h
  obtain ⟨u, rfl, ru⟩ := vals1 r
  cases ru
  exact d_len I ha fun t s' I' => ⟨.int kvs.length, H, I', ⟨t, rfl⟩, q⟩
theorem call_lenT {X : Cx} : CallR X (.builtin "len") rLenT' := by
  intro pins s σ H xs us Q I r h
  obtain ⟨p, kvs, rfl, hp, q⟩ := h
  obtain ⟨u, rfl, rx⟩ := vals1 r
  obtain rfl : u = .ref p := rx
  obtain ⟨z, hd, ys, rel, dd⟩ := dt_rd I.hok hp
  have hl : kvs.length = ys.length := Paired.length rel
  refine call_len_dictH hd dd (by rw [← hl]; rw [sizeLine_eq] at z; omega) ?_
  rw [← hl]
  exact ⟨.int ((kvs.length : Nat) : Int), H, I.tok _, ⟨_, rfl⟩, q⟩
abbrev rListK : List V → Hp → VK → Prop := fun xs H Q => ∃ (a : Addr) (kvs : List (Key × V)), xs = [.ref a] ∧ Rd H a (.dK kvs) ∧ ∀ p, H p = none → Q (.ref p) (upd H p (.lst (kvs.map fun kv => kV kv.1)))
abbrev rListT : List V → Hp → VK → Prop := fun xs H Q => ∃ d kvs, xs = [V.ref d] ∧ Rd H d (.dT kvs) ∧ ∀ p bs, H p = none → IsKeys H kvs bs → Q (.ref p) (upd H p (.lst (bs.map V.ref)))
abbrev rListS : List V → Hp → VK → Prop := fun xs H Q => ∃ z : Str, xs = [V.str z] ∧ z.length ≤ sizeLine ∧ ∀ p, H p = none → Q (.ref p) (upd H p (.lst (z.cps.toList.map fun c => V.str ⟨#[c]⟩)))
theorem call_listS {X : Cx} (hcalm : X.calm = true) : CallR X (.type "list") rListS := by
  intro pins s σ H xs us Q I r q
  obtain ⟨z, rfl, hz, q⟩ := q
  obtain ⟨u, rfl, ru⟩ := vals1 r
  obtain ⟨t, rfl⟩ := ru
  refine PySem.call_list_str (I.ok.hd hcalm) z t (fun h' tk acc' c' kp e it => ?_) (by exact hz)
  have hv : Vals (z.cps.toList.map fun c => V.str ⟨#[c]⟩) acc'.toList := by
    refine vals_of_at (by rw [List.length_map, Array.length_toList, Array.length_toList, it.1]) fun j x u h1 h2 => ?_
    obtain ⟨c, t', hc, rfl⟩ := it.2 j u (by rw [← Array.getElem?_toList]; exact h2)
    rw [List.getElem?_map] at h1
    have : z.cps.toList[j]? = some c := by rw [Array.getElem?_toList]; exact hc
    rw [this] at h1
    cases h1
    exact ⟨t', rfl⟩
  exact ⟨.ref s.heap.objs.size, _, I.laid (t' := tk) kp (Nat.le_refl _) (show ObjOk X.prog X.w _ h' _ (.lst _) from ⟨by rw [List.length_map]; exact hz, acc'.toList, c', hv, by rw [Array.toArray_toList]; exact e⟩), rfl, q _ (I.hok.fresh (Nat.le_refl _))⟩
abbrev rTupO (K : PySem.W.Frag) : List V → Hp → VK → Prop := fun xs H Q => ∃ p ys, xs = [.ref p] ∧ ((SqL K H p ys ∧ ∀ l, H l = none → Q (.ref l) (upd H l (.tup ys))) ∨ (SqT K H p ys ∧ Q (.ref p) H))
/-- a built-in, by name -/
def rB (K : PySem.W.Frag) : Bi → List V → Hp → VK → Prop
  | .all => rAll K
  | .len => fun xs H Q => rLen1 K xs H Q ∨ rLenK xs H Q ∨ rLenT' xs H Q
  | .int => fun xs H Q => (∃ i, xs = [.int i] ∧ Q (.int i) H) ∨ ∃ k, xs = [.bl k] ∧ Q (.int (if k then 1 else 0)) H
  | .isi => rIsi K
  | .tuple => rTupO K
  | .any => rAny K
  | .list => fun xs H Q => (∃ p ys, xs = [.ref p] ∧ (SqL K H p ys ∨ SqT K H p ys) ∧ ∀ l, H l = none → Q (.ref l) (upd H l (.lst ys))) ∨ rListK xs H Q ∨ rListT xs H Q ∨ rListS xs H Q
  | _ => fun _ _ _ => False
def biTy : Bi → Bool
  | .int => true
  | .str => true
  | .list => true
  | .tuple => true
  | .dict => true
  | _ => false
theorem bools_map : ∀ {ds : List D} {bs : List Bool}, bools ds = some bs → ds = bs.map D.bl
  | [], bs, h => by cases h; rfl
  | d :: ds, bs, h => by
    cases d <;> first | (cases h; done) | skip
    unfold bools at h
    cases e : bools ds with
    | none => rw [e] at h; cases h
    | some r =>
      rw [e] at h; cases h
      rw [bools_map e]; rfl
section
variable {M : Mx} {w : Wd} {H : Hp} {v : V} {vs : List V} {ds : List D} {d : D} {f : Bool} {Q : VK}
theorem rep_bls {F : Hp} {m : List Addr} : ∀ {bs : List Bool} {vs : List V}, RepL M F m vs (bs.map D.bl) → vs = bs.map V.bl
  | [], vs, r => r.nil_inv
  | s :: ss, vs, r => by
    obtain ⟨v, us, rfl, r1, r2⟩ := At.cons_inv (ys := ss.map D.bl) (y := .bl s) r
    rw [r1.bl_inv, rep_bls r2]; rfl
theorem tyx_of {x : D} {n : Nat} (wk : WOk M w H) (r : Rep M w.F w.m v x) (h : tyN x = some n) : n ≤ 6 ∧ TyX M.K H v (.type (tyS n)) := by
  cases r <;> first | (cases h; done) | skip
  · cases h; exact ⟨by decide, .base .non⟩
  · cases h; exact ⟨by decide, .base (.bl _)⟩
  · cases h; exact ⟨by decide, .base (.int _)⟩
  · cases h; exact ⟨by decide, .base (.str _)⟩
  · rename_i hf _ _; cases h; exact ⟨by decide, .base (.tup ((wk.le _ _ hf).2 rfl))⟩
  · rename_i hf _ _; cases h; exact ⟨by decide, .base (.lst ((wk.le _ _ hf).2 rfl))⟩
  · rename_i hf _ _ _
    cases h
    rcases (wk.le _ _ hf).1 with z | ⟨o, z⟩
    · exact ⟨by decide, .base (.dK z)⟩
    · exact ⟨by decide, .fDict z⟩
theorem signs_rep {F : Hp} {m : List Addr} {z : Tx} : RepL M F m ((ts z).cps.toList.map fun c => V.str ⟨#[c]⟩) (signs z) := by
  rw [ts_list]
  induction z with
  | nil => exact .nil
  | cons c z ih => exact .cons (.str [c]) ih
theorem keys_rep {F : Hp} {m : List Addr} : ∀ {kvs : List (D × D)} {vs : List (Key × V)}, At (KR M F m) vs kvs → RepL M F m (vs.map fun kv => kV kv.1) (keysOf kvs)
  | [], vs, r => by rw [r.nil_inv]; exact .nil
  | (a, b) :: kvs, vs, r => by
    obtain ⟨⟨x, y⟩, us, rfl, r1, r2⟩ := r.cons_inv
    refine .cons ?_ (keys_rep r2)
    have : a = kD x := r1.1
    subst this
    cases x with
    | inl i => exact .int i
    | inr s =>
      show Rep M F m (.str s) (.str s.cps.toList)
      have := Rep.str (M := M) (F := F) (m := m) s.cps.toList
      rw [ts_of] at this
      exact this
theorem kDs_rep {F : Hp} {m : List Addr} : ∀ {ks : List Key}, RepL M F m (ks.map kV) (ks.map kD)
  | [] => .nil
  | x :: ks => by
    refine .cons ?_ kDs_rep
    cases x with
    | inl i => exact .int i
    | inr s =>
      show Rep M F m (.str s) (.str s.cps.toList)
      have := Rep.str (M := M) (F := F) (m := m) s.cps.toList
      rw [ts_of] at this
      exact this
/-- tuples that stand in the heap are frozen -/
theorem fz_keys : ∀ {ks : List (List Key × V)} {bs : List Addr} {kvs : List (D × D)} {w : Wd}, WOk M w H → IsKeys H ks bs → (∀ (i : Nat) v d, ks[i]? = some v → kvs[i]? = some d → d.1 = ktD v.1) → ks.length = kvs.length → ∃ w', w'.h = w.h ∧ Ext w H w' H ∧ WOk M w' H ∧ RepL M w'.F w'.m (bs.map V.ref) (keysOf kvs)
  | [], bs, kvs, w, wk, ik, hk, hl => by
    cases ik
    have : kvs = [] := List.eq_nil_of_length_eq_zero hl.symm
    subst this
    exact ⟨w, rfl, Ext.refl, wk, .nil⟩
  | k :: ks, bs, kvs, w, wk, ik, hk, hl => by
    cases ik with
    | cons h ik =>
      rename_i b bs
      cases kvs with
      | nil => cases hl
      | cons kv kvs =>
        have e1 : kv.1 = ktD k.1 := hk 0 k kv rfl rfl
        have one : ∃ w', w'.h = w.h ∧ Ext w H w' H ∧ WOk M w' H ∧ Rep M w'.F w'.m (.ref b) kv.1 := by
          rw [e1]
          cases q : w.F b with
          | some o =>
            have := (wk.le b o q).1
            have : o = .tup (k.1.map kV) := by
              rcases (wk.le b o q).1 with z | ⟨_, z⟩
              · rw [h] at z; cases z; rfl
              · rw [h] at z; cases z
            subst this
            have rr : RepL M w.F w.m (k.1.map kV) (k.1.map kD) := kDs_rep
            exact ⟨w, rfl, Ext.refl, wk, .tup q rr.1 rr.2⟩
          | none =>
            have nl : ∀ i, ¬ Live w i b := fun i l => by
              obtain ⟨⟨d, hd⟩, hm⟩ := l
              obtain ⟨a, u, h1, h2, h3, h4⟩ := wk.al i d hd
              rw [hm] at h1; cases h1
              rw [h] at h3; cases h3
              exact cell_notup h4
            obtain ⟨e, k2⟩ := ext_fz wk h q nl (.inr (.inl ⟨_, h⟩)) Ext.refl
            have rr : RepL M (upd w.F b (.tup (k.1.map kV))) w.m (k.1.map kV) (k.1.map kD) := kDs_rep
            exact ⟨w.fz b _, rfl, e, k2, .tup upd_same rr.1 rr.2⟩
        obtain ⟨w1, a1, a2, a3, a4⟩ := one
        obtain ⟨w2, b1, b2, b3, b4⟩ := fz_keys (kvs := kvs) a3 ik (fun i v d x y => hk (i + 1) v d (by simpa using x) (by simpa using y)) (by simpa using hl)
        exact ⟨w2, b1.trans a1, a2.trans b2, b3, .cons (a4.mono b2.ff b2.mm) b4⟩
theorem Fin.keysT {p : Addr} {ks : List (List Key × V)} {bs : List Addr} {kvs : List (D × D)} (k : Fin M w H true (.lst (keysOf kvs)) Q) (wk : WOk M w H) (hp : H p = none) (ik : IsKeys H ks bs) (c : At (TR M w.F w.m) ks kvs) : Q (.ref p) (upd H p (.lst (bs.map V.ref))) := by
  obtain ⟨w1, a1, a2, a3, a4⟩ := fz_keys wk ik (fun i v d x y => (c.2 i v d x y).1) c.1
  obtain ⟨e, k1⟩ := ext_lay (o := .lst (bs.map V.ref)) a3 hp
  have nl : ∀ i, ¬ Live w1 i p := fun i l => by
    obtain ⟨u, h, _⟩ := live_some a3 l
    rw [hp] at h; cases h
  exact k _ w1 _ a1 (a2.trans e) k1 ⟨rfl, p, _, rfl, upd_same, le_none a3.le hp, nl, .inl hp, a4⟩
theorem bi_ok {b : Bi} (hb : biIn b = true) (wk : WOk M w H) (rl : RepL M w.F w.m vs ds) (e : biN w.h b ds = some (f, d)) (k : Fin M w H f d Q) : rB M.K b vs H Q := by
  cases b <;> first | (cases hb; done) | skip
  · -- all
    cases ds with
    | nil => simp [biN] at e
    | cons x ds => cases ds with
      | cons y ds => simp [biN] at e
      | nil =>
        obtain ⟨v, us, rfl, r1, r2⟩ := rl.cons_inv
        obtain rfl := r2.nil_inv
        replace e : b_all w.h x = some (f, d) := e
        unfold b_all at e
        split at e
        · rename_i xs
          cases q : bools xs with
          | none => rw [q] at e; cases e
          | some bs =>
            rw [q] at e; cases e
            obtain ⟨a, u, rfl, fa, c⟩ := rep_unbox rfl r1
            cases u <;> first | exact c.elim | skip
            have := bools_map q
            subst this
            have := rep_bls c
            subst this
            exact ⟨a, bs, rfl, sqL_of wk.le fa, k.here wk (.bl _)⟩
        · cases e
  · -- any
    cases ds with
    | nil => simp [biN] at e
    | cons x ds => cases ds with
      | cons y ds => simp [biN] at e
      | nil =>
        obtain ⟨v, us, rfl, r1, r2⟩ := rl.cons_inv
        obtain rfl := r2.nil_inv
        replace e : b_any w.h x = some (f, d) := e
        unfold b_any at e
        split at e
        · rename_i xs
          cases q : bools xs with
          | none => rw [q] at e; cases e
          | some bs =>
            rw [q] at e; cases e
            obtain ⟨a, u, rfl, fa, c⟩ := rep_unbox rfl r1
            cases u <;> first | exact c.elim | skip
            have := bools_map q
            subst this
            have := rep_bls c
            subst this
            exact ⟨a, bs, rfl, sqL_of wk.le fa, k.here wk (.bl _)⟩
        · cases e
  · -- len
    cases ds with
    | nil => simp [biN] at e
    | cons x ds => cases ds with
      | cons y ds => simp [biN] at e
      | nil =>
        obtain ⟨v, us, rfl, r1, r2⟩ := rl.cons_inv
        obtain rfl := r2.nil_inv
        replace e : b_len w.h x = some (f, d) := e
        unfold b_len at e
        split at e
        · rename_i s hd
          split at e
          · rename_i hl
            cases e
            refine .inl ⟨v, s.length, rfl, ?_, k.here wk (.int _)⟩
            rw [den_str wk r1 hd]
            exact ⟨by rw [ts_len, ← lim_eq]; exact hl, (ts_len s).symm⟩
          · cases e
        · rename_i xs hd
          cases e
          obtain ⟨a, vs, rfl, ha, rl⟩ := den_lst wk r1 hd
          exact .inl ⟨_, _, rfl, .inl ⟨vs, .inl (.inl ha), rl.1.symm⟩, k.here wk (.int _)⟩
        · rename_i xs hd
          cases e
          obtain ⟨a, vs, rfl, fa, ha, rl⟩ := den_tup wk r1 hd
          exact .inl ⟨_, _, rfl, .inr ⟨vs, sqT_of wk.le fa, rl.1.symm⟩, k.here wk (.int _)⟩
        · rename_i t kvs hd
          cases e
          obtain ⟨a, u, rfl, rd, c⟩ := den_box wk r1 hd rfl
          cases u <;> first | exact c.elim | skip
          · exact .inr (.inl ⟨a, _, rfl, rd.1, by rw [c.2.1]; exact k.here wk (.int _)⟩)
          · exact .inr (.inr ⟨a, _, rfl, rd.1, by rw [c.2.1]; exact k.here wk (.int _)⟩)
        · cases e
  · -- int
    cases ds with
    | nil => simp [biN] at e
    | cons x ds => cases ds with
      | cons y ds => simp [biN] at e
      | nil =>
        obtain ⟨v, us, rfl, r1, r2⟩ := rl.cons_inv
        obtain rfl := r2.nil_inv
        replace e : b_int w.h x = some (f, d) := e
        unfold b_int at e
        split at e
        · cases e
          exact .inl ⟨_, by rw [r1.int_inv], k.here wk (.int _)⟩
        · cases e
          exact .inr ⟨_, by rw [r1.bl_inv], k.here wk (.int _)⟩
        · cases e
  · -- list
    cases ds with
    | nil => simp [biN] at e
    | cons x ds => cases ds with
      | cons y ds => simp [biN] at e
      | nil =>
        obtain ⟨v, us, rfl, r1, r2⟩ := rl.cons_inv
        obtain rfl := r2.nil_inv
        replace e : b_list w.h x = some (f, d) := e
        unfold b_list at e
        split at e
        · rename_i xs hd
          cases e
          obtain ⟨a, vs, rfl, ha, rl⟩ := den_lst wk r1 hd
          exact .inl ⟨a, vs, rfl, .inl (.inl (.inl ha)), fun p hp => k.box wk rfl hp rl⟩
        · rename_i xs hd
          cases e
          obtain ⟨a, vs, rfl, fa, ha, rl⟩ := den_tup wk r1 hd
          exact .inl ⟨a, vs, rfl, .inr (sqT_of wk.le fa), fun p hp => k.box wk rfl hp rl⟩
        · rename_i s hd
          split at e
          · rename_i hl
            cases e
            refine .inr (.inr (.inr ⟨ts s, by rw [den_str wk r1 hd], by rw [ts_len, ← lim_eq]; exact hl, fun p hp => k.box wk rfl hp (signs_rep)⟩))
          · cases e
        · rename_i t kvs hd
          cases e
          obtain ⟨a, u, rfl, rd, c⟩ := den_box wk r1 hd rfl
          cases u <;> first | exact c.elim | skip
          · exact .inr (.inl ⟨a, _, rfl, rd.1, fun p hp => k.box wk rfl hp (keys_rep c.2)⟩)
          · exact .inr (.inr (.inl ⟨a, _, rfl, rd.1, fun p bs hp ik => k.keysT wk hp ik c.2⟩))
        · cases e
  · -- tuple
    cases ds with
    | nil => simp [biN] at e
    | cons x ds => cases ds with
      | cons y ds => simp [biN] at e
      | nil =>
        obtain ⟨v, us, rfl, r1, r2⟩ := rl.cons_inv
        obtain rfl := r2.nil_inv
        replace e : b_tuple w.h x = some (f, d) := e
        unfold b_tuple at e
        split at e
        · rename_i xs hd
          cases e
          obtain ⟨a, vs, rfl, ha, rl⟩ := den_lst wk r1 hd
          exact ⟨a, vs, rfl, .inl ⟨.inl (.inl ha), fun l hl => k.tup wk hl rl⟩⟩
        · rename_i xs hd
          cases e
          obtain ⟨a, vs, rfl, fa, ha, rl⟩ := den_tup wk r1 hd
          exact ⟨a, vs, rfl, .inr ⟨sqT_of wk.le fa, k.here wk (.tup fa rl.1 rl.2)⟩⟩
        · cases e
  · -- isinstance
    cases ds with
    | nil => simp [biN] at e
    | cons x ds => cases ds with
      | nil => simp [biN, bi1] at e
      | cons y ds => cases ds with
        | cons z ds => simp [biN] at e
        | nil =>
          obtain ⟨v, us, rfl, r1, r2⟩ := rl.cons_inv
          obtain ⟨u, us, rfl, r3, r4⟩ := r2.cons_inv
          obtain rfl := r4.nil_inv
          replace e : (isi x y).map (fun b => (false, D.bl b)) = some (f, d) := e
          cases q : isi x y with
          | none => rw [q] at e; cases e
          | some b =>
            rw [q] at e; cases e
            unfold isi at q
            split at q
            · rename_i n
              have main : ∀ (m : Nat), tyN x = some m → (if Nat.beq n 2 then some (Nat.beq m 2 || Nat.beq m 1) else if Nat.ble 1 n && Nat.ble n 6 then some (Nat.beq m n) else none) = some b → rIsi M.K [v, u] H Q := by
                intro m hm hq
                obtain ⟨m6, tx⟩ := tyx_of wk r1 hm
                have hn : 1 ≤ n ∧ n ≤ 6 ∧ b = (if Nat.beq n 2 then (Nat.beq m 2 || Nat.beq m 1) else Nat.beq m n) := by
                  by_cases h2 : Nat.beq n 2 = true
                  · rw [if_pos h2] at hq ⊢
                    have := Nat.eq_of_beq_eq_true h2
                    subst this
                    exact ⟨by omega, by omega, (Option.some.inj hq).symm⟩
                  · rw [if_neg h2] at hq ⊢
                    split at hq
                    · rename_i h3
                      rw [Bool.and_eq_true_iff] at h3
                      exact ⟨Nat.le_of_ble_eq_true h3.1, Nat.le_of_ble_eq_true h3.2, (Option.some.inj hq).symm⟩
                    · cases hq
                refine ⟨v, u, .type (tyS m), .type (tyS n), b, rfl, by rw [r3.ty_inv]; exact .ty _, tx, ?_, k.here wk (.bl b)⟩
                rw [kit_ok M.K m n m6 hn.1 hn.2.1, hn.2.2]
              cases hm : tyN x with
              | none => rw [hm] at q; cases q
              | some m => rw [hm] at q; exact main m hm q
            · cases q
end
end Yl

set_option maxRecDepth 100000
set_option maxHeartbeats 4000000
/-! Y15: what is checked is computed: all expressions. -/
namespace Yl
open PySem PySem.Spec PyProof.Rows L2
open T (good_bind)
section
variable {M : Mx} {L : Lw} {N : List Str} {k : Nat} {ck ckt : CkE} {r : Ev} {t : Et} {X : Cx} {sc : Scope} {G : Gx} {ρ : Env} {h : Hc} {PF : Bool → D → Hc → Prop} {P : D → Hc → Prop} {B : Bool → Hc → Prop} {a : Expr} {md : Md}
theorem glob_ok {x : Str} (h : glob sc x = true) : sc.names.lookup x = some .globalImplicit ∧ (x == ("__debug__" : Str)) = false ∧ (x == ("__classdict__" : Str)) = false ∧ x ≠ "__name__" := by
  unfold glob kindG at h
  rw [Bool.and_eq_true_iff, decide_eq_true_eq] at h
  exact ⟨h.1, nmB_ok h.2⟩
theorem s_bi (F : Fac M L) (s : SE M N k ck r) (hb : Bx X M N sc k G.W) {b : Bi} {es : List E} (c : ckE1 L N ck ckt sc (.bi b es) a = true) (g : (e_bi md r t ρ h b es).good (fun p => PF p.1 p.2.1 p.2.2) (fun c pl h' => G.PX c pl ρ h')) : FX X M G a ρ h PF := by
  simp only [ckE1] at c
  split at c
  · rename_i x p u us pos
    simp only [Bool.and_eq_true, decide_eq_true_eq] at c
    obtain ⟨c1, c2, c3, c4, c5⟩ := c
    obtain ⟨g1, g2, g3, g4⟩ := glob_ok c3
    have hm := F.free x (by simpa using c4)
    unfold ckArgs at c5
    rw [Bool.and_eq_true_iff] at c5
    have st := c5.2
    rw [List.all_cons, Bool.and_eq_true_iff] at st
    have ax := vls_ax (U := fun ds h' => ∃ f d, PF f d h' ∧ ∀ vs w H (Q : VK), w.h = h' → WOk M w H → RepL M w.F w.m vs ds → Fin M w H f d Q → rB X.K b vs H Q) s hb c5.1 c5.2 (T.good_mono (fun p q => by
      obtain ⟨f, d, e1, e2⟩ := ot_good q
      refine ⟨f, d, e2, fun vs w H Q eh wk rl fin => ?_⟩
      rw [hb.hK]
      exact bi_ok c1 wk rl (by rw [eh]; exact e1) fin) (fun _ _ _ q => q) (good_bind.mp g))
    subst c2
    cases b <;> first | (cases c1; done) | skip
    · exact fx_callB (cr_all hb.calm) hb.toBw hm (by decide +kernel) g1 g4 g2 (star_cons us st.1) (star_all st.2) ax
    · exact fx_callB (cr_any hb.calm) hb.toBw hm (by decide +kernel) g1 g4 g2 (star_cons us st.1) (star_all st.2) ax
    · exact fx_callB (callr_or call_len (callr_or call_lenK call_lenT)) hb.toBw hm (by decide +kernel) g1 g4 g2 (star_cons us st.1) (star_all st.2) ax
    · exact fx_callTy call_int1 hb.toBw hm (by decide +kernel) g1 g4 g2 (star_cons us st.1) (star_all st.2) ax
    · exact fx_callTy (callr_or call_list_of (callr_or (call_listD hb.calm) (callr_or (call_list_dT hb.calm) (call_listS hb.calm)))) hb.toBw hm (by decide +kernel) g1 g4 g2 (star_cons us st.1) (star_all st.2) ax
    · exact fx_callTy call_tuple_of hb.toBw hm (by decide +kernel) g1 g4 g2 (star_cons us st.1) (star_all st.2) ax
    · exact fx_callB call_isi hb.toBw hm (by decide +kernel) g1 g4 g2 (star_cons us st.1) (star_all st.2) ax
  · cases c
theorem cst_ok {d : D} (c : ckCst d a = true) (p : P d h) : EX X M G a ρ h P := by
  unfold ckCst at c
  split at c
  · unfold ckConst at c
    split at c <;> first | (cases c; done) | skip
    · exact ex_non p
    · have := eq_of_beq c
      subst this
      exact ex_bl p
    · have := of_decide_eq_true c
      subst this
      exact ex_int p
    · have := of_decide_eq_true c
      subst this
      rename_i b
      have e := ts_of b
      have p2 : ∀ (j : Nat) (pos : Pos), EX X M G (.Constant (.str b) j pos) ρ h P := fun j pos => by
        have := ex_str (X := X) (M := M) (G := G) (ρ := ρ) (j := j) (pos := pos) (hc := h) (P := P) (i := b.cps.toList) p
        rw [e] at this
        exact this
      exact p2 _ _
  · split at c
    · have := of_decide_eq_true c
      subst this
      exact .of (pe_un un_neg pe_int) (fun σ w H Q eh wk sk xc q => ⟨_, rfl, q _ _ w H (by rw [eh]; exact p) Ext.refl wk (.int _)⟩)
    · cases c
  · cases c
theorem isStrD_ok {x : D} (h : isStrD x = true) : ∃ z, x = .str z := by
  cases x <;> first | (cases h; done) | exact ⟨_, rfl⟩
theorem cellL_ok {h : Hc} {x : D} (q : cellL h x = true) : ∃ j ds, x = .ref j ∧ h[j]? = some (some (.lst ds)) := by
  cases x with
  | ref j =>
    have q' : (match h[j]? with | some (some (.lst _)) => true | _ => false) = true := q
    cases e : h[j]? with
    | none => rw [e] at q'; cases q'
    | some o =>
      cases o with
      | none => rw [e] at q'; cases q'
      | some d =>
        rw [e] at q'
        cases d <;> first | (cases q'; done) | exact ⟨j, _, rfl, e⟩
  | _ => cases q
theorem s_me (s : SE M N k ck r) (hb : Bx X M N sc k G.W) {m : Me} {x : E} {es : List E} (c : ckE1 L N ck ckt sc (.me m x es) a = true) (g : (e_me md r t ρ h m x es).good (fun p => PF p.1 p.2.1 p.2.2) (fun c pl h' => G.PX c pl ρ h')) : FX X M G a ρ h PF := by
  simp only [ckE1] at c
  split at c
  · rename_i o n ap u pos
    have one : ∀ {m : Me} {y : E} {p : D × Hc} {Z : D → Hc → Prop}, ck sc y u = true → ((vls r [y] ρ p.2).bind fun p2 => om (me p2.2 m p.1 p2.1)).good (fun p => PF p.1 p.2.1 p.2.2) (fun c pl h' => G.PX c pl ρ h') → (∀ d h2, (∃ f d' h3, me h2 m p.1 [d] = some (f, d', h3) ∧ PF f d' h3) → Z d h2) → EX X M G u ρ p.2 Z := by
      intro m y p Z cy q z
      refine vl_ex s hb cy (T.good_mono (fun p2 q2 => ?_) (fun _ _ _ q => q) (good_bind.mp (good_bind.mp q)))
      have q3 := good_bind.mp q2
      exact z _ _ (om_good q3)
    split at c
    · simp only [Bool.and_eq_true, decide_eq_true_eq] at c
      obtain ⟨rfl, c1, c2, c3, c4, c5⟩ := c
      refine fx_split hb.toBw (star_one c3) (base_no c4) c5 (vl_ex s hb c1 (T.good_mono (fun p q => ?_) (fun _ _ _ q => q) (good_bind.mp g)))
      split at q
      · rename_i mr
        obtain ⟨z, hz⟩ := isStrD_ok mr
        refine ⟨z, hz, one c2 q fun d h2 hm => ?_⟩
        obtain ⟨f, d', h3, e1, e2⟩ := hm
        rw [hz] at e1
        replace e1 : m_split h2 (.str z) [d] = some (f, d', h3) := e1
        unfold m_split at e1
        split at e1
        · rename_i s' c' _ hx hy
          cases hx
          injection hy with hy _
          subst hy
          split at e1
          · rename_i hl
            cases e1
            exact ⟨_, rfl, hl.1, hl.2, e2⟩
          · cases e1
        · cases e1
      · exact q.elim
    · simp only [Bool.and_eq_true, decide_eq_true_eq] at c
      obtain ⟨rfl, c1, c2, c3, c4, c5⟩ := c
      refine fx_join hb.toBw (star_one c3) (base_no c4) c5 (vl_ex s hb c1 (T.good_mono (fun p q => ?_) (fun _ _ _ q => q) (good_bind.mp g)))
      split at q
      · rename_i mr
        obtain ⟨z, hz⟩ := isStrD_ok mr
        refine ⟨z, hz, one c2 q fun d h2 hm => ?_⟩
        obtain ⟨f, d', h3, e1, e2⟩ := hm
        rw [hz] at e1
        replace e1 : ((seqOf (deref h2 d)).bind txsOf).bind (fun ss => if joinOk z ss then some (false, D.str (joinT z ss), h2) else none) = some (f, d', h3) := e1
        cases e3 : seqOf (deref h2 d) with
        | none => rw [e3] at e1; cases e1
        | some ys =>
          rw [e3] at e1
          replace e1 : (txsOf ys).bind (fun ss => if joinOk z ss then some (false, D.str (joinT z ss), h2) else none) = some (f, d', h3) := e1
          cases e4 : txsOf ys with
          | none => rw [e4] at e1; cases e1
          | some ss =>
            rw [e4] at e1
            replace e1 : (if joinOk z ss then some (false, D.str (joinT z ss), h2) else none) = some (f, d', h3) := e1
            split at e1
            · rename_i hj
              cases e1
              refine ⟨ys, ss, ?_, e4, hj, e2⟩
              unfold seqOf at e3
              split at e3 <;> cases e3
              · exact .inl (by assumption)
              · exact .inr (by assumption)
            · cases e1
      · exact q.elim
    · simp only [Bool.and_eq_true, decide_eq_true_eq] at c
      obtain ⟨rfl, c1, c2, c3, c4, c5⟩ := c
      refine fx_app hb.toBw (base_no c4) c5 (star_cons [] c3) ?_ (vl_ex s hb c1 (T.good_mono (fun p q => ?_) (fun _ _ _ q => q) (good_bind.mp g)))
      · rw [star_one c3]; rfl
      · split at q
        · rename_i mr
          obtain ⟨j, ds0, hz, hj⟩ := cellL_ok mr
          refine ⟨j, ds0, hz, hj, one c2 q fun d h2 hm => ?_⟩
          obtain ⟨f, d', h3, e1, e2⟩ := hm
          rw [hz] at e1
          replace e1 : (match h2[j]? with | some (some (.lst xs)) => if xs.length < lim then some (false, D.non, h2.set j (some (.lst (xs ++ [d])))) else none | _ => none) = some (f, d', h3) := e1
          split at e1
          · rename_i xs hx
            split at e1
            · rename_i hl
              cases e1
              exact ⟨xs, hx, hl, e2⟩
            · cases e1
          · cases e1
        · exact q.elim
    · cases c
  · cases c
theorem s_slice (s : SE M N k ck r) (hb : Bx X M N sc k G.W) {x : E} {lo hi : Option E} (c : ckE1 L N ck ckt sc (.slice x lo hi) a = true) (g : (e_slice md r t ρ h x lo hi).good (fun p => PF p.1 p.2.1 p.2.2) (fun c pl h' => G.PX c pl ρ h')) : FX X M G a ρ h PF := by
  simp only [ckE1] at c
  split at c
  · simp only [Bool.and_eq_true] at c
    obtain ⟨c1, c2, c3⟩ := c
    refine fx_slice hb.toBw (vl_ex s hb c1 (T.good_mono (fun p q => part_ox s hb c2 (T.good_mono (fun p2 q2 => part_ox s hb c3 (T.good_mono (fun p3 q3 => ot_good q3) (fun _ _ _ q => q) (good_bind.mp q2))) (fun _ _ _ q => q) (good_bind.mp q))) (fun _ _ _ q => q) (good_bind.mp g)))
  · cases c
/-- behind a call of a pure def -/
theorem unR_good {h : Hc} {x : T Rs} {PX : Nat → Pl → Hc → Prop} (g : (unR [] h x).good (fun p => PF p.1 p.2.1 p.2.2) PX) : x.good (fun p => p.2.1.nr = true ∧ PF p.1 p.2.1 h) (fun c pl _ => nrPl pl = true ∧ PX c pl h) := by
  induction x with
  | ok p =>
    obtain ⟨f, d, h'⟩ := p
    have g' : (if d.nr then (match wback [] h' h with | some h2 => T.ok (f, d, h2) | none => .no) else .no : T Rs).good (fun p => PF p.1 p.2.1 p.2.2) PX := g
    split at g'
    · rename_i hn
      cases h' <;> exact ⟨hn, g'⟩
    · exact g'.elim
  | ex c pl h' =>
    have g' : (if nrPl pl then (match wback [] h' h with | some h2 => T.ex c pl h2 | none => .no) else .no : T Rs).good (fun p => PF p.1 p.2.1 p.2.2) PX := g
    split at g'
    · rename_i hn
      cases h' <;> exact ⟨hn, g'⟩
    · exact g'.elim
  | no => exact g
  | dr n f ih => exact fun i hi => ih i (g i hi)
theorem s_call (A : Cls2 M L md k') (hk : k' ≤ k) (s : SE M N k ck r) (hb : Bx X M N sc k G.W) {f : Nat} {es : List E} (c : ckE1 L N ck ckt sc (.call f es) a = true) (g : (e_call md r t ρ h f es).good (fun p => PF p.1 p.2.1 p.2.2) (fun c pl h' => G.PX c pl ρ h')) : FX X M G a ρ h PF := by
  simp only [ckE1] at c
  split at c
  · rename_i x p u us pos
    simp only [Bool.and_eq_true, decide_eq_true_eq] at c
    obtain ⟨c1, c2, c3⟩ := c
    obtain ⟨g1, g2, g3, g4⟩ := glob_ok c2
    obtain ⟨ps, fc⟩ := A.fn f x c1
    unfold ckArgs at c3
    rw [Bool.and_eq_true_iff] at c3
    have st := c3.2
    rw [List.all_cons, Bool.and_eq_true_iff] at st
    refine fx_call fc hb hk g1 g2 (star_cons us st.1) (star_all st.2) (vls_ax s hb c3.1 c3.2 (T.good_mono (fun p q => ?_) (fun _ _ _ q => q) (good_bind.mp g)))
    unfold callV at q
    split at q
    · rename_i hn
      exact ⟨hn, unR_good q⟩
    · exact q.elim
  · cases c
theorem mkR_good {h : Hc} {x : T Rs} {PX : Nat → Pl → Hc → Prop} {C : Nat} (g : (mkR C h x).good (fun p => PF p.1 p.2.1 p.2.2) PX) :
    x.good (fun p => p.1 = false ∧ p.2.1 = .non ∧ ∃ fs, p.2.2 = [some (.ins C fs)] ∧ nrF fs = true ∧ PF true (.ins C fs) h) (fun c pl _ => nrPl pl = true ∧ PX c pl h) := by
  induction x with
  | ok p =>
    unfold mkR at g
    split at g
    · rename_i C' fs e
      cases e
      split at g
      · rename_i hc
        rw [Bool.and_eq_true_iff] at hc
        have := Nat.eq_of_beq_eq_true hc.1
        subst this
        exact ⟨rfl, rfl, fs, rfl, hc.2, g⟩
      · exact g.elim
    · exact g.elim
    · rename_i e; cases e
    · rename_i e; cases e
    · rename_i e; cases e
  | ex c pl h' =>
    have g' : (if nrPl pl then T.ex c pl h else .no : T Rs).good (fun p => PF p.1 p.2.1 p.2.2) PX := g
    split at g'
    · rename_i hn
      exact ⟨hn, g'⟩
    · exact g'.elim
  | no => exact g
  | dr n f ih => exact fun i hi => ih i (g i hi)
theorem calm_good {α : Type} {P : α → Prop} {PX : Nat → Pl → Hc → Prop} : ∀ {x : T α}, x.calm.good P PX → x.good P (fun _ _ _ => False)
  | .ok a, g => g
  | .ex c pl h, g => g
  | .no, g => g
  | .dr n f, g => fun i hi => calm_good (g i hi)
/-! ### targets -/
theorem gs_names (hb : Bw X M N sc) {U : List Nat} {S' : Env → Prop} : ∀ {is : List Nat} {ts : List Expr} {ds : List D} {ρ : Env}, all2 (fun i (e : Expr) => match e with | .Name x _ => decide (N[i]? = some x) && decide (sc.names.lookup x = some .local) | _ => false) is ts = true → (∀ i ∈ is, i ∈ U) → ds.length = is.length → S' ((is.zip ds).foldl (fun ρ p => ρ.set p.1 (some p.2)) ρ) → GS X M U ts ds ρ S'
  | [], [], ds, ρ, c, hU, hl, p => by
    have := List.eq_nil_of_length_eq_zero hl
    subst this
    exact gs_nil p
  | [], _ :: _, ds, ρ, c, hU, hl, p => by cases c
  | _ :: _, [], ds, ρ, c, hU, hl, p => by cases c
  | i :: is, t :: ts, [], ρ, c, hU, hl, p => by cases hl
  | i :: is, t :: ts, d :: ds, ρ, c, hU, hl, p => by
    rw [all2, Bool.and_eq_true_iff] at c
    obtain ⟨c1, c2⟩ := c
    split at c1
    · rename_i x pos
      simp only [Bool.and_eq_true, decide_eq_true_eq] at c1
      exact gs_cons (gx_name i hb (gs_names hb c2 (fun j hj => hU j (by simp [hj])) (by simpa using hl) p) (hU i (by simp)) c1.1 (.inl c1.2)) rfl
    · cases c1
theorem names_star {is : List Nat} : ∀ {ts : List Expr}, all2 (fun i (e : Expr) => match e with | .Name x _ => decide (N[i]? = some x) && decide (sc.names.lookup x = some .local) | _ => false) is ts = true → ∀ env : PySem.Env, (assignEach ts env).length = ts.length ∧ (assignEach ts env).findIdx? (·.1) = none := by
  induction is with
  | nil =>
    intro ts c env
    cases ts with
    | nil => exact ⟨rfl, rfl⟩
    | cons t ts => cases c
  | cons i is ih =>
    intro ts c env
    cases ts with
    | nil => cases c
    | cons t ts =>
      rw [all2, Bool.and_eq_true_iff] at c
      obtain ⟨c1, c2⟩ := c
      split at c1
      · rename_i x pos
        obtain ⟨h1, h2⟩ := ih c2 env
        refine ⟨?_, ?_⟩
        · show (assignEach ts env).length + 1 = _
          rw [h1]; rfl
        · show List.findIdx? (·.1) ((false, assign (.Name x pos) env) :: assignEach ts env) = none
          rw [List.findIdx?_cons, h2]; rfl
      · cases c1
theorem tg_gx {W : WX} (hb : Bx X M N sc k W) {tg : List Nat} {tp : Bool} {te : Expr} {d : D} {ρ' : Env} {S' : Env → Prop} (c : ckTg N sc tg tp te = true) (e : asg tg tp d ρ = some ρ') (p : S' ρ') : GX X M tg te d ρ S' := by
  unfold ckTg at c
  split at c
  · split at c
    · simp only [Bool.and_eq_true, decide_eq_true_eq] at c
      cases e
      exact gx_name _ hb.toBw p (by simp) c.1 (.inl c.2)
    · cases c
  · rename_i ts n pos
    simp only [Bool.and_eq_true, decide_eq_true_eq] at c
    obtain ⟨⟨rfl, c2⟩, c3⟩ := c
    cases d <;> first | (cases tg <;> cases e; done) | skip
    rename_i ds
    have e' : (if ds.length == tg.length then some ((tg.zip ds).foldl (fun ρ p => ρ.set p.1 (some p.2)) ρ) else none) = some ρ' := by
      cases tg <;> exact e
    split at e'
    · rename_i hl
      cases e'
      have hl : ds.length = tg.length := by simpa using hl
      have hlen : tg.length = ts.length := by
        have : ∀ {is : List Nat} {ts : List Expr} {f : Nat → Expr → Bool}, all2 f is ts = true → is.length = ts.length := by
          intro is
          induction is with
          | nil => intro ts f c; cases ts with
            | nil => rfl
            | cons t ts => cases c
          | cons i is ih => intro ts f c; cases ts with
            | nil => cases c
            | cons t ts =>
              rw [all2, Bool.and_eq_true_iff] at c
              simp [ih c.2]
        exact this c2
      have st := names_star c2 X.env
      exact gx_tup hb (by rw [hl, hlen]) (gs_names hb.toBw c2 (fun _ h => h) hl p) st.1 st.2
    · cases e'
  · cases c
end
end Yl

set_option maxRecDepth 100000
set_option maxHeartbeats 4000000
/-! Y16: comprehensions, instances; all expressions together. -/
namespace Yl
open PySem PySem.Spec PyProof.Rows L2
open T (good_bind)
section
variable {M : Mx} {L : Lw} {N : List Str} {k k' : Nat} {ck ckt : CkE} {r : Ev} {t : Et} {X : Cx} {sc : Scope} {G : Gx} {ρ : Env} {h : Hc} {PF : Bool → D → Hc → Prop} {P : D → Hc → Prop} {B : Bool → Hc → Prop} {a : Expr} {md : Md} {U : List D → Hc → Prop}
theorem one_good {e : E} {PX : Nat → Pl → Hc → Prop} {Z : List D × Hc → Prop} (g : (vls r [e] ρ h).good Z PX) : (vl r e ρ h).good (fun p => Z ([p.1], p.2)) PX := T.good_mono (fun p q => good_bind.mp q) (fun _ _ _ q => q) (good_bind.mp g)
theorem vls_len {PX : Nat → Pl → Hc → Prop} : ∀ {es : List E} {h : Hc} {Z : List D × Hc → Prop}, (vls r es ρ h).good Z PX → (vls r es ρ h).good (fun p => p.1.length = es.length ∧ Z p) PX
  | [], h, Z, g => ⟨rfl, g⟩
  | e :: es, h, Z, g => good_bind.mpr (T.good_mono (fun p q => good_bind.mpr (T.good_mono (fun p2 q2 => ⟨by show p2.1.length + 1 = _; rw [q2.1]; rfl, q2.2⟩) (fun _ _ _ q => q) (vls_len (good_bind.mp q)))) (fun _ _ _ q => q) (good_bind.mp g))
theorem items_r1 {l ds : List D} (e : items .rng l = some ds) (hl : l.length = 1) : ∃ n, l = [.int n] ∧ small n = true ∧ ds = rangeU 0 n.toNat := by
  cases l with
  | nil => cases hl
  | cons x l => cases l with
    | cons _ _ => simp at hl
    | nil =>
      cases x <;> first | (cases e; done) | skip
      rename_i n
      have e' : (if small n then some (rangeU 0 n.toNat) else none) = some ds := e
      split at e'
      · cases e'; exact ⟨n, rfl, by assumption, rfl⟩
      · cases e'
theorem items_r2 {l ds : List D} (e : items .rng l = some ds) (hl : l.length = 2) : ∃ n m, l = [.int n, .int m] ∧ small n = true ∧ small m = true ∧ ds = rangeU n (m - n).toNat := by
  cases l with
  | nil => cases hl
  | cons x l => cases l with
    | nil => simp at hl
    | cons y l => cases l with
      | cons _ _ => simp at hl
      | nil =>
        cases x <;> first | (cases e; done) | skip
        cases y <;> first | (cases e; done) | skip
        rename_i n m
        have e' : (if small n && small m then some (rangeU n (m - n).toNat) else none) = some ds := e
        split at e'
        · rename_i hs
          rw [Bool.and_eq_true_iff] at hs
          cases e'; exact ⟨n, m, rfl, hs.1, hs.2, rfl⟩
        · cases e'
theorem items_z {l ds : List D} (e : items .zip l = some ds) (hl : l.length = 2) : ∃ x y, l = [.str x, .str y] ∧ ds = zipD (signs x) (signs y) := by
  cases l with
  | nil => cases hl
  | cons x l => cases l with
    | nil => simp at hl
    | cons y l => cases l with
      | cons _ _ => simp at hl
      | nil =>
        cases x <;> first | (cases e; done) | skip
        cases y <;> first | (cases e; done) | skip
        rename_i n m
        have e' : (if n.length ≤ lim ∧ m.length ≤ lim then some (zipD (signs n) (signs m)) else none) = some ds := e
        split at e'
        · cases e'; exact ⟨n, m, rfl, rfl⟩
        · cases e'
theorem all2_len {α β : Type} {f : α → β → Bool} : ∀ {as : List α} {bs : List β}, all2 f as bs = true → as.length = bs.length
  | [], [], _ => rfl
  | [], _ :: _, c => by cases c
  | _ :: _, [], c => by cases c
  | a :: as, b :: bs, c => by
    rw [all2, Bool.and_eq_true_iff] at c
    simp [all2_len c.2]
theorem it_ix (F : Fac M L) (s : SE M N k ck r) (hb : Bx X M N sc k G.W) {ik : Ik} {its : List E} {te it : Expr} (c : ckIt L ck sc ik its te it = true) (g : (vls r its ρ h).good (fun p => ∃ ds, items ik p.1 = some ds ∧ U ds p.2) (fun c pl h' => G.PX c pl ρ h')) : IX X M G te it ρ h U := by
  unfold ckIt at c
  split at c
  · rw [Bool.and_eq_true_iff] at c
    refine ix_lst hb.toBw (vl_ex s hb c.1 (T.good_mono (fun p q => ?_) (fun _ _ _ q => q) (one_good g)))
    obtain ⟨ds, e, u⟩ := q
    generalize p.1 = d at e
    cases d <;> cases e
    exact ⟨_, rfl, u⟩
  · rw [Bool.and_eq_true_iff] at c
    refine ix_tup hb.toBw (vl_ex s hb c.1 (T.good_mono (fun p q => ?_) (fun _ _ _ q => q) (one_good g)))
    obtain ⟨ds, e, u⟩ := q
    generalize p.1 = d at e
    cases d <;> cases e
    · exact ⟨_, .inl rfl, u⟩
    · exact ⟨_, .inr rfl, u⟩
  · rw [Bool.and_eq_true_iff] at c
    refine ix_str (vl_ex s hb c.1 (T.good_mono (fun p q => ?_) (fun _ _ _ q => q) (one_good g)))
    obtain ⟨ds, e, u⟩ := q
    generalize p.1 = d at e
    cases d <;> first | (cases e; done) | skip
    rename_i z
    have e' : (if z.length ≤ lim then some (signs z) else none) = some ds := e
    split at e'
    · cases e'; exact ⟨z, rfl, u⟩
    · cases e'
  · split at c
    · rename_i x p as pos
      simp only [Bool.and_eq_true, decide_eq_true_eq] at c
      obtain ⟨rfl, c2, c3, c4, c5⟩ := c
      obtain ⟨g1, g2, g3, g4⟩ := glob_ok c2
      have hm := F.free "range" (by simpa using c3)
      unfold ckArgs at c4
      rw [Bool.and_eq_true_iff] at c4
      cases as with
      | nil => simp at c5
      | cons u as =>
        have st := c4.2
        rw [List.all_cons, Bool.and_eq_true_iff] at st
        cases as with
        | nil =>
          refine ix_range1 hb.toBw hm g1 (star_one st.1) (vls_ax s hb c4.1 c4.2 (T.good_mono (fun p q => ?_) (fun _ _ _ q => q) (vls_len g)))
          obtain ⟨hl, ds, e, uu⟩ := q
          obtain ⟨n, e1, e2, rfl⟩ := items_r1 e (hl.trans (all2_len c4.1))
          exact ⟨n, e1, e2, uu⟩
        | cons v as => cases as with
          | nil =>
            have st2 := st.2
            rw [List.all_cons, Bool.and_eq_true_iff] at st2
            refine ix_range2 hb.toBw hm g1 (by rw [star_cons _ st.1, star_one st2.1]) (star_one st2.1) (vls_ax s hb c4.1 c4.2 (T.good_mono (fun p q => ?_) (fun _ _ _ q => q) (vls_len g)))
            obtain ⟨hl, ds, e, uu⟩ := q
            obtain ⟨n, m, e1, e2, e3, rfl⟩ := items_r2 e (hl.trans (all2_len c4.1))
            exact ⟨n, m, e1, e2, e3, uu⟩
          | cons z as => simp at c5
    · cases c
  · split at c
    · rename_i x p u v pos ts n tpos
      simp only [Bool.and_eq_true, decide_eq_true_eq] at c
      obtain ⟨rfl, c2, c3, c4⟩ := c
      obtain ⟨g1, g2, g3, g4⟩ := glob_ok c2
      have hm := F.free "zip" (by simpa using c3)
      unfold ckArgs at c4
      rw [Bool.and_eq_true_iff] at c4
      have st := c4.2
      rw [List.all_cons, Bool.and_eq_true_iff] at st
      refine ix_zip hb.toBw hm g1 (star_cons _ st.1) (star_all st.2) (vls_ax s hb c4.1 c4.2 (T.good_mono (fun p q => ?_) (fun _ _ _ q => q) (vls_len g)))
      obtain ⟨hl, ds, e, uu⟩ := q
      obtain ⟨x, y, e1, rfl⟩ := items_z e hl
      exact ⟨x, y, e1, uu⟩
    · cases c
  · cases c
theorem in_block (s : SE M N k ck r) {scope : Scope} {e : E} {b : Expr} (hb : Bx X M N sc k G.W) (c : ck (relS scope sc) e b = true) (g : (vl r e ρ h).good (fun p => P p.1 p.2) (fun _ _ _ => False)) : InB X M N scope sc k fun X' => EX X' M Gn b ρ h P := fun X' _ bx => vl_ex (G := Gn) s bx c g
theorem s_lc (F : Fac M L) (s : SE M N k ck r) (st : STe M N k ckt t) (hb : Bx X M N sc k G.W) {tg : List Nat} {tp : Bool} {ik : Ik} {its cond : List E} {elt : E}
    (c : ckE1 L N ck ckt sc (.lc tg tp ik its cond elt) a = true) (g : (e_lc md r t ρ h tg tp ik its cond elt).good (fun p => PF p.1 p.2.1 p.2.2) (fun c pl h' => G.PX c pl ρ h')) : FX X M G a ρ h PF := by
  have c : ckLc L N ck ckt sc tg tp ik its cond elt a = true := c
  unfold ckLc at c
  split at c
  · rename_i eb te it ifs scope pos _
    simp only [Bool.and_eq_true, decide_eq_true_eq] at c
    obtain ⟨c1, c2, c3, c4, c5, c6, c7⟩ := c
    have ow : (ownOf N tg).map (·.2) = tg := by unfold ownOf; rw [List.map_map]; simp [Function.comp_def]
    refine fx_lc (T := tg) (ownOf N tg) (fun ds i acc h' => (lcGo r t tg tp cond elt ρ (ds.drop i) acc.reverse h').good (fun q => PF true (.lst q.1) q.2) (fun _ _ _ => False)) hb (blkOk_by c1) (fun j hj => by rw [ow]; exact hj) (fold_no c4)
      (it_ix F s hb c3 (T.good_mono (fun p q => ?_) (fun _ _ _ q => q) (good_bind.mp g)))
    split at q
    · rename_i ds hds
      split at q
      · rename_i hl
        refine ⟨ds, hds, by rw [← lim_eq]; exact hl, ?_, fun i d acc h' hd hi => ?_, fun acc h' hi => ?_⟩
        · rw [List.drop_zero]
          exact calm_good (T.good_mono (fun q z => z) (fun _ _ _ z => z) (good_bind.mp q))
        · have hdrop : ds.drop i = d :: ds.drop (i + 1) := by
            obtain ⟨hlt, e⟩ := List.getElem?_eq_some_iff.mp hd
            rw [← e, List.drop_eq_getElem_cons hlt]
          rw [hdrop] at hi
          have h1 := good_bind.mp hi
          cases ha : asg tg tp d (unset ρ tg) with
          | none => rw [ha] at h1; exact h1.elim
          | some ρ' =>
            rw [ha] at h1
            have h2 := good_bind.mp h1
            intro X' bk bx
            rw [ow]
            refine tg_gx bx c2 ha fun X'' bk2 bx2 => ?_
            have body : ∀ (b : Bool) (h2 : Hc), (if b then (vl r elt ρ' h2).bind fun p => lcGo r t tg tp cond elt ρ (ds.drop (i + 1)) (p.1 :: acc.reverse) p.2 else lcGo r t tg tp cond elt ρ (ds.drop (i + 1)) acc.reverse h2).good (fun q => PF true (.lst q.1) q.2) (fun _ _ _ => False) →
                (b = true → InB X M N scope sc k fun X' => EX X' M Gn eb ρ' h2 fun y h3 => (lcGo r t tg tp cond elt ρ (ds.drop (i + 1)) (acc ++ [y]).reverse h3).good (fun q => PF true (.lst q.1) q.2) (fun _ _ _ => False)) ∧ (b = false → (lcGo r t tg tp cond elt ρ (ds.drop (i + 1)) acc.reverse h2).good (fun q => PF true (.lst q.1) q.2) (fun _ _ _ => False)) := by
              intro b h2 hb2
              refine ⟨fun e => ?_, fun e => ?_⟩
              · rw [if_pos e] at hb2
                refine in_block s hb c7 (T.good_mono (fun p q => ?_) (fun _ _ _ q => q) (good_bind.mp hb2))
                rw [List.reverse_append]
                exact q
              · rw [if_neg (by rw [e]; exact Bool.false_ne_true)] at hb2
                exact hb2
            cases cond with
            | nil =>
              cases ifs with
              | nil => exact if_nil (body true h' h2)
              | cons _ _ => cases c5
            | cons e1 cond =>
              cases ifs with
              | nil => cases c5
              | cons f1 ifs =>
                cases ifs with
                | cons _ _ => simp at c6
                | nil =>
                  cases cond with
                  | cons _ _ => simp [all2] at c5
                  | nil =>
                    have c5' := c5
                    simp only [all2, Bool.and_true] at c5'
                    exact if_one (st X'' _ Gn e1 f1 ρ' h' _ bx2 c5' (T.good_mono (fun p q => body p.1 p.2 q) (fun _ _ _ q => q) h2))
        · have : ds.drop ds.length = [] := List.drop_length
          rw [this] at hi
          have hi : PF true (.lst acc.reverse.reverse) h' := hi
          rw [List.reverse_reverse] at hi
          exact hi
      · exact q.elim
    · exact q.elim
  · cases c
theorem s_dc (F : Fac M L) (s : SE M N k ck r) (hb : Bx X M N sc k G.W) {x : Nat} {ik : Ik} {it kx vx : E} (c : ckDc N ck sc x ik it kx vx a = true) (g : (e_dc md r t ρ h false x ik it kx vx).good (fun p => PF p.1 p.2.1 p.2.2) (fun c pl h' => G.PX c pl ρ h')) : FX X M G a ρ h PF := by
  unfold ckDc at c
  split at c
  · rename_i ke ve te ie scope pos _
    simp only [Bool.and_eq_true] at c
    obtain ⟨c1, c2, c3, c4, c5, c6⟩ := c
    have ow : (ownOf N [x]).map (·.2) = [x] := rfl
    refine fx_dc (T := [x]) (ownOf N [x]) (fun ds i acc h' => (dcGo r false x kx vx ρ (ds.drop i) acc h').good (fun q => PF true (.dct false q.1) q.2) (fun _ _ _ => False)) hb (blkOk_by c1) (fun j hj => by rw [ow]; exact hj) (fold_no c4) ?_
    split at c3 <;> first | (cases c3; done) | skip
    refine ix_tup hb.toBw (vl_ex s hb c3 (T.good_mono (fun p q => ?_) (fun _ _ _ q => q) (good_bind.mp g)))
    split at q
    · rename_i ds hds
      split at q
      · rename_i hl
        have q2 : (dcGo r false x kx vx ρ ds [] p.2).good (fun q => PF true (.dct false q.1) q.2) (fun _ _ _ => False) := calm_good (T.good_mono (fun q z => z) (fun _ _ _ z => z) (good_bind.mp q))
        refine ⟨ds, ?_, by rw [← lim_eq]; exact hl, by rw [List.drop_zero]; exact q2, fun i d acc h' hd hi => ?_, fun acc h' hi => ?_⟩
        · generalize p.1 = d at hds
          cases d <;> cases hds
          · exact .inl rfl
          · exact .inr rfl
        · have hdrop : ds.drop i = d :: ds.drop (i + 1) := by
            obtain ⟨hlt, e⟩ := List.getElem?_eq_some_iff.mp hd
            rw [← e, List.drop_eq_getElem_cons hlt]
          rw [hdrop] at hi
          intro X' bk bx
          rw [ow]
          refine tg_gx (d := d) (ρ' := (unset ρ [x]).set x (some d)) bx c2 rfl ?_
          refine in_block s hb c5 (T.good_mono (fun p1 q1 => ?_) (fun _ _ _ q => q) (good_bind.mp hi))
          refine in_block s hb c6 (T.good_mono (fun p2 q2 => ?_) (fun _ _ _ q => q) (good_bind.mp q1))
          split at q2
          · rename_i hf
            exact ⟨hf, q2⟩
          · exact q2.elim
        · have : ds.drop ds.length = [] := List.drop_length
          rw [this] at hi
          exact hi
      · exact q.elim
    · exact q.elim
  · cases c
theorem s_mk (A : Cls2 M L md k') (hk : k' + 1 ≤ k) (hmk : ∀ j, md.mk_ j = L.pg.mks.getD j (0, 0, [])) (s : SE M N k ck r) (hb : Bx X M N sc k G.W) {j : Nat} {es : List E} (c : ckE1 L N ck ckt sc (.mk j es) a = true)
    (g : (e_mk md r t ρ h j es).good (fun p => PF p.1 p.2.1 p.2.2) (fun c pl h' => G.PX c pl ρ h')) : FX X M G a ρ h PF := by
  simp only [ckE1] at c
  split at c
  · rename_i x p u us pos
    rw [Bool.and_eq_true_iff, Bool.and_eq_true_iff] at c
    obtain ⟨c1, c2, c3⟩ := c
    obtain ⟨gl1, g2, g3, g4⟩ := glob_ok c2
    split at c1
    · rename_i q hq
      obtain ⟨C, f, dfl⟩ := q
      obtain ⟨ps, mc⟩ := A.make j C f dfl hq x (by simpa using c1)
      have e : md.mk_ j = (C, f, dfl) := by rw [hmk, List.getD_eq_getElem?_getD, hq]; rfl
      unfold ckArgs at c3
      rw [Bool.and_eq_true_iff] at c3
      have st := c3.2
      rw [List.all_cons, Bool.and_eq_true_iff] at st
      refine fx_mk mc hb hk gl1 g2 (star_cons us st.1) (star_all st.2) (vls_ax s hb c3.1 c3.2 (T.good_mono (fun p q => ?_) (fun _ _ _ q => q) (good_bind.mp g)))
      rw [e] at q
      unfold mkV at q
      split at q
      · rename_i hn
        exact ⟨hn, mkR_good q⟩
      · exact q.elim
    · cases c1
  · cases c
end
section
variable {M : Mx} {L : Lw} {N : List Str} {k k' : Nat} {ck ckt : CkE} {r : Ev} {t : Et} {X : Cx} {sc : Scope} {G : Gx} {ρ : Env} {h : Hc} {PF : Bool → D → Hc → Prop} {a : Expr} {md : Md}
theorem set_self {h : Hc} {j : Nat} {d : D} (e : h[j]? = some (some d)) : h.set j (some d) = h := by
  apply List.ext_getElem?
  intro i
  by_cases hi : j = i
  · subst hi
    rw [List.getElem?_set_self (List.getElem?_eq_some_iff.mp e).1, e]
  · rw [List.getElem?_set_ne hi]
theorem s_draw (A : Cls2 M L md k') (hk : k' ≤ k) (s : SE M N k ck r) (hb : Bx X M N sc k G.W) {i : Nat} {n : E} (c : ckE1 L N ck ckt sc (.draw i n) a = true) (g : (e_draw md r t ρ h i n).good (fun p => PF p.1 p.2.1 p.2.2) (fun c pl h' => G.PX c pl ρ h')) : FX X M G a ρ h PF := by
  simp only [ckE1] at c
  split at c
  · rename_i x p y p2 u pos
    simp only [Bool.and_eq_true, decide_eq_true_eq, slotV] at c
    obtain ⟨c0, rfl, c2, ⟨c3, c4, c5⟩, c6, c7⟩ := c
    obtain ⟨g1, g2, g3, g4⟩ := glob_ok c2
    obtain ⟨n1, n2, n3⟩ := nmB_ok c5
    obtain ⟨ps, fc⟩ := A.draw c0
    unfold e_draw at g
    split at g
    · rename_i j hj
      refine fx_callZ (j := j) fc hb hk g1 g2 rfl (star_all (es := [u]) (by simp [c7])) (ax_cons rfl (ex_var i hb.toBw hj ?_ c3 (kindV_ok c4) n1 n2))
      refine ax_cons (star_cons [] c7) (vl_ex s hb c6 (T.good_mono (fun p q => ax_nil ?_) (fun _ _ _ q => q) (good_bind.mp g)))
      split at q
      · rename_i m hm hz
        split at q
        · rename_i hl
          refine ⟨[.int m], .zz, by rw [hz]; rfl, rfl, hm, rfl, m, rfl, rfl, hl.1, hl.2, fun i hi => ⟨rfl, rfl, .zz, rfl, rfl, ?_⟩⟩
          rw [set_self hm]
          exact q i hi
        · exact q.elim
      · exact q.elim
    · exact g.elim
  · cases c
end
/-! ### all together -/
section
variable {M : Mx} {L : Lw} {N : List Str} {k k' : Nat} {md : Md}
theorem stepE_ok (F : Fac M L) (A : Cls2 M L md k') (hk : k' + 1 ≤ k) (hgl : ∀ g, md.gl g = L.pg.gls.getD g .non) {ck ckt : CkE} {r : Ev} {t : Et} (s : SE M N k ck r) (st : STe M N k ckt t) (hmk : ∀ j, md.mk_ j = L.pg.mks.getD j (0, 0, [])) : SE M N k (ckE1 L N ck ckt) (stepE md r t) := by
  intro X sc G e a ρ h PF hb c g
  cases e with
  | var i =>
    simp only [ckE1] at c
    split at c
    · simp only [slotV, Bool.and_eq_true, decide_eq_true_eq] at c
      obtain ⟨c1, c2, c3⟩ := c
      obtain ⟨n1, n2, n3⟩ := nmB_ok c3
      have g : (e_var md r t ρ h i).good (fun p => PF p.1 p.2.1 p.2.2) (fun c pl h' => G.PX c pl ρ h') := g
      unfold e_var at g
      split at g
      · exact EX.fx (ex_var i hb.toBw (by assumption) g c1 (kindV_ok c2) n1 n2)
      · exact g.elim
    · cases c
  | take i =>
    simp only [ckE1] at c
    split at c
    · simp only [slotV, Bool.and_eq_true, decide_eq_true_eq] at c
      obtain ⟨c1, c2, c3⟩ := c
      obtain ⟨n1, n2, n3⟩ := nmB_ok c3
      have g : (e_take md r t ρ h i).good (fun p => PF p.1 p.2.1 p.2.2) (fun c pl h' => G.PX c pl ρ h') := g
      unfold e_take at g
      split at g
      · split at g
        · split at g
          · exact fx_take i hb.toBw (by assumption) (by assumption) (by assumption) g c1 (kindV_ok c2) n1 n2
          · exact g.elim
        · exact g.elim
      · exact g.elim
    · cases c
  | cst d => exact EX.fx (cst_ok c g)
  | gl n =>
    simp only [ckE1] at c
    split at c
    · simp only [Bool.and_eq_true, decide_eq_true_eq] at c
      obtain ⟨g1, g2, g3, g4⟩ := glob_ok c.2
      obtain ⟨v, u, h1, h2, h3⟩ := F.gl n _ c.1
      have g : PF false (md.gl n) h := g
      rw [hgl] at g
      exact EX.fx (ex_gl hb.toBw h1 h2 h3 g g1 g2)
    · cases c
  | ty n =>
    simp only [ckE1] at c
    split at c
    · simp only [Bool.and_eq_true, decide_eq_true_eq] at c
      obtain ⟨c1, c2, c3⟩ := c
      obtain ⟨g1, g2, g3, g4⟩ := glob_ok c2
      exact EX.fx (ex_ty hb.toBw (F.free _ (by simpa using c3)) c1 g g1 g4 g2)
    · cases c
  | op2 o x y => exact s_op2' (t := t) (Md := md) s hb c g
  | not x =>
    simp only [ckE1] at c
    split at c
    · refine EX.fx (ex_notT hb.toBw (vl_ex s hb c (T.good_mono (fun p q => ?_) (fun _ _ _ q => q) (good_bind.mp g))))
      split at q
      · exact ⟨_, by assumption, q⟩
      · exact q.elim
    · cases c
  | and xs =>
    simp only [ckE1] at c
    split at c
    · exact EX.fx (andV_ex s hb c g)
    · cases c
  | or xs =>
    simp only [ckE1] at c
    split at c
    · exact EX.fx (orV_ex s hb c g)
    · cases c
  | ite c1 x y =>
    simp only [ckE1] at c
    split at c
    · simp only [Bool.and_eq_true] at c
      refine fx_ite (st X sc G _ _ ρ h _ hb c.1 (T.good_mono (fun p q => ⟨fun e => ?_, fun e => ?_⟩) (fun _ _ _ q => q) (good_bind.mp g)))
      · rw [if_pos e] at q
        exact s X sc G _ _ ρ _ PF hb c.2.1 q
      · rw [if_neg (by rw [e]; exact Bool.false_ne_true)] at q
        exact s X sc G _ _ ρ _ PF hb c.2.2 q
    · cases c
  | chain o o' x y z => exact s_chain' (t := t) (Md := md) s hb c g
  | tup es =>
    simp only [ckE1] at c
    split at c
    · simp only [Bool.and_eq_true, decide_eq_true_eq, ckArgs] at c
      refine EX.fx (ex_tup (vls_ax s hb c.1.1 c.1.2 (T.good_mono (fun p q => ⟨q.2, ?_⟩) (fun _ _ _ q => q) (vls_len (good_bind.mp g)))))
      rw [q.1, ← lim_eq]
      exact Nat.le_trans c.2 (by decide)
    · cases c
  | lst es =>
    simp only [ckE1] at c
    split at c
    · simp only [Bool.and_eq_true, decide_eq_true_eq, ckArgs] at c
      refine fx_lst (vls_ax s hb c.1.1 c.1.2 (T.good_mono (fun p q => ⟨q.2, ?_⟩) (fun _ _ _ q => q) (vls_len (good_bind.mp g))))
      rw [q.1, ← lim_eq]
      exact Nat.le_trans c.2 (by decide)
    · cases c
  | bi b es => exact s_bi (md := md) (t := t) F s hb c g
  | me m x es => exact s_me (md := md) (t := t) s hb c g
  | slice x lo hi => exact s_slice (md := md) (t := t) s hb c g
  | call f es => exact s_call (md := md) (t := t) A (Nat.le_of_succ_le hk) s hb c g
  | lc tg tp ik its cond elt => exact s_lc (md := md) (t := t) F s st hb c g
  | dc t0 x ik it kx vx =>
    simp only [ckE1, Bool.and_eq_true, Bool.not_eq_true'] at c
    obtain ⟨rfl, c⟩ := c
    exact s_dc (md := md) (t := t) F s hb c g
  | new x =>
    refine EX.fx (FX.new (s X sc G x a ρ h _ hb c (T.good_mono (fun p q => ?_) (fun _ _ _ q => q) (good_bind.mp g))))
    split at q
    · exact ⟨by assumption, q⟩
    · exact q.elim
  | mk j es => exact s_mk (md := md) (t := t) A hk hmk s hb c g
  | draw i n => exact s_draw (md := md) (t := t) A (Nat.le_of_succ_le hk) s hb c g
  | _ => cases c
theorem stepT_ok {ck0 ckt0 ckt : CkE} {r0 : Ev} {t0 t : Et} (s0 : SE M N k ck0 r0) (s : SE M N k (ckE1 L N ck0 ckt0) (stepE md r0 t0)) (st : STe M N k ckt t) : STe M N k (ckT1 (ckE1 L N ck0 ckt0) ckt) (stepT (stepE md r0 t0) t) := by
  intro X sc G e a ρ h B hb c g
  have dflt : (stepT (stepE md r0 t0) t e ρ h = (stepE md r0 t0 e ρ h).bind fun p => match tru p.2.2 p.2.1 with | some b => T.ok (b, p.2.2) | none => .no) → ckT0 (ckE1 L N ck0 ckt0) sc e a = true → TX X M G a ρ h B := by
    intro e1 c
    rw [e1] at g
    unfold ckT0 at c
    split at c
    · rename_i l op w p
      rw [Bool.and_eq_true_iff] at c
      cases e <;> first | (cases c.2; done) | skip
      rename_i o x y
      exact t_cmp (t := t0) (Md := md) s0 hb c.1 g
    · rw [Bool.and_eq_true_iff] at c
      cases e <;> first | (cases c.2; done) | skip
      exact t_chain (t := t0) (Md := md) s0 hb c.1 g
    · rw [Bool.and_eq_true_iff] at c
      refine tx_tru (test_no c.2) hb.toBw (FX.ex (s X sc G e _ ρ h _ hb c.1 (T.good_mono (fun p q => ?_) (fun _ _ _ q => q) (good_bind.mp g))))
      split at q
      · exact ⟨_, by assumption, q⟩
      · exact q.elim
  cases e with
  | not x =>
    simp only [ckT1] at c
    split at c
    · exact tx_not (st X sc G _ _ ρ h _ hb c (T.good_mono (fun p q => q) (fun _ _ _ q => q) (good_bind.mp g)))
    · cases c
  | and xs =>
    simp only [ckT1] at c
    split at c
    · exact WXX.tx (andT_wx st hb c g)
    · cases c
  | or xs =>
    simp only [ckT1] at c
    split at c
    · exact WXX.tx (orT_wx st hb c g)
    · cases c
  | _ => exact dflt rfl c
theorem evE_ok (F : Fac M L) (A : Cls2 M L md k') (hk : k' + 1 ≤ k) (hgl : ∀ g, md.gl g = L.pg.gls.getD g .non) (hmk : ∀ j, md.mk_ j = L.pg.mks.getD j (0, 0, [])) : ∀ n, SE M N k (ckEE L N n).1 (evE md n).1 ∧ STe M N k (ckEE L N n).2 (evE md n).2
  | 0 => ⟨fun X sc G e a ρ h PF hb c g => (by cases c), fun X sc G e a ρ h B hb c g => (by cases c)⟩
  | n + 1 => by
    obtain ⟨h1, h2⟩ := evE_ok F A hk hgl hmk n
    have s1 := stepE_ok (N := N) F A hk hgl h1 h2 hmk
    exact ⟨s1, stepT_ok (md := md) h1 s1 h2⟩
end
end Yl

set_option maxRecDepth 100000
set_option maxHeartbeats 4000000
/-! Y20: the cell of the draws, opened and closed. -/
namespace Yl
open PySem PySem.Spec PyProof.Rows L2
/-- the draws' cell, opened -/
def zzD (qs : List Int) (i c s : Int) : D := .lst [.lst (qs.map D.int), .int i, .int c, .int s]
section
variable {M : Mx} {w : Wd} {H : Hp} {j : Nat} {a : Addr} {d0 d : D}
theorem ints_rep {F : Hp} {m : List Addr} : ∀ {qs : List Int}, RepL M F m (qs.map V.int) (qs.map D.int)
  | [] => .nil
  | q :: qs => .cons (.int q) ints_rep
theorem rep_ints {F : Hp} {m : List Addr} : ∀ {qs : List Int} {vs : List V}, RepL M F m vs (qs.map D.int) → vs = qs.map V.int
  | [], vs, r => r.nil_inv
  | s :: ss, vs, r => by
    obtain ⟨v, us, rfl, r1, r2⟩ := At.cons_inv (ys := ss.map D.int) (y := .int s) r
    rw [r1.int_inv, rep_ints r2]; rfl
/-- the cell j is told in other words -/
theorem ext_say (k : WOk M w H) (h0 : w.h[j]? = some (some d0)) (c : ∀ u, Cont M w.F w.m d0 u → Cont M w.F w.m d u) : Ext w H (w.put j (some d)) H ∧ WOk M (w.put j (some d)) H := by
  refine ⟨⟨fun _ _ h => h, fun _ _ h => h, fun b o h n => h, fun b h => h, fun _ _ h => .inl h, fun i b l => .inl ⟨i, live_put l ⟨d0, h0⟩⟩⟩, ⟨k.le, by simp [k.lm], fun i d' h => ?_, fun i l b x y => k.inj i l b (live_put x ⟨d0, h0⟩) (live_put y ⟨d0, h0⟩)⟩⟩
  have h : (w.h.set j (some d))[i]? = some (some d') := h
  by_cases hj : j = i
  · subst hj
    rw [List.getElem?_set_self (List.getElem?_eq_some_iff.mp h0).1] at h
    cases h
    obtain ⟨b, u, h1, h2, h3, h4⟩ := k.al j d0 h0
    exact ⟨b, u, h1, h2, h3, c u h4⟩
  · rw [List.getElem?_set_ne hj] at h
    exact k.al i d' h
theorem zz_open (k : WOk M w H) (h0 : w.h[j]? = some (some .zz)) : ∃ qs i c s, 0 ≤ i ∧ 0 ≤ c ∧ 0 ≤ s ∧ s < 2 ^ 31 ∧ Ext w H (w.put j (some (zzD qs i c s))) H ∧ WOk M (w.put j (some (zzD qs i c s))) H := by
  obtain ⟨b, u, h1, h2, h3, h4⟩ := k.al j .zz h0
  cases u <;> first | exact h4.elim | skip
  obtain ⟨q, i, c, s, qs, e, hq, b1, b2, b3, b4⟩ := h4
  subst e
  have ir : RepL M w.F w.m (qs.map V.int) (qs.map D.int) := ints_rep
  have c3 : Cont M w.F w.m (zzD qs i c s) (.lst [.ref q, .int i, .int c, .int s]) := At.cons (.lst hq ir.1 ir.2) (.cons (.int i) (.cons (.int c) (.cons (.int s) .nil)))
  have e0 := ext_put k h0 h1 c3
  have eq : upd H b (.lst [.ref q, .int i, .int c, .int s]) = H := by
    funext x
    by_cases hx : x = b
    · subst hx; rw [upd_same, h3]
    · rw [upd_ne hx]
  rw [eq] at e0
  exact ⟨qs, i, c, s, b1, b2, b3, b4, e0⟩
theorem zz_close {qs : List Int} {i c s : Int} (k : WOk M w H) (h0 : w.h[j]? = some (some (zzD qs i c s))) (b1 : 0 ≤ i) (b2 : 0 ≤ c) (b3 : 0 ≤ s) (b4 : s < 2 ^ 31) : Ext w H (w.put j (some .zz)) H ∧ WOk M (w.put j (some .zz)) H :=
  ext_say k h0 fun u cu => by
    cases u <;> first | exact cu.elim | skip
    obtain ⟨v0, r0, rfl, p0, q0⟩ := At.cons_inv cu
    obtain ⟨v1, r1, rfl, p1, q1⟩ := q0.cons_inv
    obtain ⟨v2, r2, rfl, p2, q2⟩ := q1.cons_inv
    obtain ⟨v3, r3, rfl, p3, q3⟩ := q2.cons_inv
    obtain rfl := q3.nil_inv
    obtain ⟨q, u, rfl, fq, cq⟩ := rep_unbox rfl p0
    cases u <;> first | exact cq.elim | skip
    rename_i vs
    have := rep_ints (qs := qs) cq
    subst this
    exact ⟨q, i, c, s, qs, by rw [p1.int_inv, p2.int_inv, p3.int_inv], fq, b1, b2, b3, b4⟩
end
end Yl

set_option maxRecDepth 100000
set_option maxHeartbeats 4000000
/-! Y17: statements, defs, the program. -/
namespace Yl
open PySem PySem.Spec PyProof.Rows L2
open T (good_bind)
theorem good_sx {α : Type} {ρ : Env} {f : α → T Out} {S : Out → Prop} {PX : Nat → Pl → Hc → Prop} : ∀ {t : T α}, (sx ρ f t).good S PX → t.good (fun a => (f a).good S PX) (fun c pl h => S (.xx c pl ρ h))
  | .ok a, g => g
  | .ex c pl h, g => g
  | .no, g => g
  | .dr n g', g => fun i hi => good_sx (g i hi)
/-! ### the check of statements -/
abbrev CkS := S → Stmt → Bool
section
variable (L : Lw) (N : List Str) (sc : Scope) (ce ct : CkE)
def ckNm (i : Nat) (x : Str) : Bool := decide (N[i]? = some x) && kindS sc x
def ckHds : List Hd → List ExceptHandler → Bool
  | [], [] => true
  | .c tb i d :: hs, .ExceptHandler (some (.Name y _)) none [.Assign [.Name x _] e _] _ :: hds =>
    (L.cnm.any fun p => decide (p.2 = y) && tb.all fun q => L.exm.contains (q.1, p.1, q.2)) && (glob sc y && (ckNm N sc i x && ((match e with | .Constant c _ _ => ckConst d c | _ => false) && ckHds hs hds)))
  | _, _ => false
def ckTry (hs : List Hd) (hds : List ExceptHandler) : Bool := match hs, hds with
  | [.f tb ei i n], [.ExceptHandler (some (.Name y _)) (some en) [.Assign [.Name x _] (.Attribute (.Name en' _) f _) _] _] =>
    (L.cnm.any fun p => decide (p.2 = y) && ((tb.all fun q => L.exm.contains (q.1, p.1, q.2)) && ((tb.all fun q => !q.2 || Nat.beq q.1 p.1) && L.xf.contains (p.1, n)))) && (glob sc y && (decide (N[ei]? = some en) && (decide (sc.names.lookup en = some .local) && (decide (ei ≠ i) && (nmB en && (ckNm N sc i x && (decide (en' = en) && decide (f = ts n))))))))
  | hs, hds => !hds.isEmpty && ckHds L N sc hs hds
def ckS1 (cs : CkS) (s : S) (a : Stmt) : Bool := match s with
  | .set i e => match a with | .Assign [.Name x _] w _ => ckNm N sc i x && (ce sc e w && noComp w) | _ => false
  | .setFld C o n e => match a with | .Assign [.Attribute b f _] w _ => decide (f = ts n) && (ce sc o b && (ce sc e w && (noComp w && (L.plain.contains C && L.noat.contains (C, n)))))| _ => false
  | .setIx o i e => match a with | .Assign [.Subscript b j _] w _ => ce sc o b && (ce sc i j && (ce sc e w && (noComp w && noSlice j))) | _ => false
  | .ex e => match a with | .Expr w _ => ce sc e w && noComp w | _ => false
  | .ite c x y => match a with | .If w u v _ => ct sc c w && (all2 cs x u && all2 cs y v) | _ => false
  | .for_ tg tp ik its body => match a with | .For t i b [] _ => ckTg N sc tg tp t && (ckIt L ce sc ik its t i && (noSet i && all2 cs body b)) | _ => false
  | .while_ c body => match a with | .While w b [] _ => ct sc c w && all2 cs body b | _ => false
  | .ret e => match a with | .Return (some w) _ => ce sc e w | _ => false
  | .retN => match a with | .Return none _ => true | _ => false
  | .raise C fl es => match a with
    | .Raise (some (.Call (.Name x _) as [] _)) none _ => match fl, es, as with
      | none, [], [] => L.exc0.contains C && (L.cnm.contains (C, x) && glob sc x)
      | some n, [e], [w] => L.exc1.contains (C, n) && (L.cnm.contains (C, x) && (glob sc x && (ce sc e w && noStar w)))
      | _, _, _ => false
    | _ => false
  | .try_ body hs => match a with | .Try b hds [] [] _ => all2 cs body b && ckTry L N sc hs hds | _ => false
  | .pass => match a with | .Pass _ => true | _ => false
  | .brk => match a with | .Break _ => true | _ => false
  | .fz _ s => cs s a
  | .zzc _ s => cs s a
  | _ => false
end
section
variable {M : Mx} {L : Lw} {N : List Str} {k k' : Nat} {ce ct : CkE} {cs : CkS} {r : Ev} {t : Et} {x : Es} {X : Cx} {sc : Scope} {G : Gx} {ρ : Env} {h : Hc} {S' : Out → Prop} {md : Md}
def SSt (M : Mx) (N : List Str) (k : Nat) (sc : Scope) (cs : CkS) (x : Es) : Prop := ∀ (X : Cx) (G : Gx) (s : S) (a : Stmt) (ρ : Env) (h : Hc) (S' : Out → Prop), Bx X M N sc k G.W → Frx X → cs s a = true → (∀ c pl ρ h, S' (.xx c pl ρ h) → G.PX c pl ρ h) → (x s ρ h).good S' (fun _ _ _ => False) → SX X M G a ρ h S'
theorem blk_bx (s : SSt M N k sc cs x) (hb : Bx X M N sc k G.W) (fx : Frx X) : ∀ {ss : List S} {as : List Stmt} {ρ : Env} {h : Hc} {S' : Out → Prop}, all2 cs ss as = true → (∀ c pl ρ h, S' (.xx c pl ρ h) → G.PX c pl ρ h) → (blk x ss ρ h).good S' (fun _ _ _ => False) → BX X M G as ρ h S'
  | [], [], ρ, h, S', c, hx, g => bx_nil g
  | [], _ :: _, _, _, _, c, _, _ => by cases c
  | _ :: _, [], _, _, _, c, _, _ => by cases c
  | [s1], [a], ρ, h, S', c, hx, g => by
    simp only [all2, Bool.and_true] at c
    exact bx_one (s X G s1 a ρ h S' hb fx c hx g)
  | [s1], a :: b :: as, _, _, _, c, _, _ => by simp [all2] at c
  | s1 :: s2 :: ss, [a], _, _, _, c, _, _ => by simp [all2] at c
  | s1 :: s2 :: ss, a :: b :: as, ρ, h, S', c, hx, g => by
    have c' := c
    rw [all2, Bool.and_eq_true_iff] at c'
    refine bx_cons (s X G s1 a ρ h _ hb fx c'.1 (fun c pl ρ h q => hx c pl ρ h q) (T.good_mono (fun o q => ?_) (fun _ _ _ q => q) (good_bind.mp g)))
    cases o with
    | nx ρ' h' => exact blk_bx s hb fx c'.2 hx q
    | rt f d h' => exact q
    | bk ρ' h' => exact q
    | ct ρ' h' => exact q
    | xx c pl ρ' h' => exact q
/-- an expression in a statement -/
theorem vlS (s : SE M N k ce r) {e : E} {a : Expr} {P : D → Hc → Prop} (hb : Bx X M N sc k G.W) (c : ce sc e a = true) (hx : ∀ c pl ρ h, S' (.xx c pl ρ h) → G.PX c pl ρ h) (g : (vl r e ρ h).good (fun p => P p.1 p.2) (fun c pl h' => S' (.xx c pl ρ h'))) : EX X M G a ρ h P := vl_ex s hb c (T.good_mono (fun _ q => q) (fun c pl h q => hx c pl ρ h q) g)
theorem fz_sx (s : SSt M N k sc cs x) (hb : Bx X M N sc k G.W) (fx : Frx X) {st : S} {a : Stmt} (c : cs st a = true) (hx : ∀ c pl ρ h, S' (.xx c pl ρ h) → G.PX c pl ρ h) : ∀ {is : List Nat} {ρ : Env} {h : Hc}, (match fzs is ρ h with | some (ρ', h') => x st ρ' h' | none => .no : T Out).good S' (fun _ _ _ => False) → SX X M G a ρ h S'
  | [], ρ, h, g => s X G st a ρ h S' hb fx c hx g
  | i :: is, ρ, h, g => by
    unfold fzs at g
    split at g
    · rename_i e
      split at e
      · split at e
        · split at e
          · refine sx_fz i (by assumption) (by assumption) (by assumption) (fz_sx s hb fx c hx (is := is) ?_)
            rw [e]
            exact g
          · cases e
        · cases e
      · refine fz_sx s hb fx c hx (is := is) ?_
        rw [e]
        exact g
    · exact g.elim
theorem allI_map : ∀ {ds : List D}, allI ds = true → ∃ qs : List Int, ds = qs.map D.int
  | [], _ => ⟨[], rfl⟩
  | d :: ds, h => by
    cases d <;> first | (cases h; done) | skip
    obtain ⟨qs, rfl⟩ := allI_map (ds := ds) h
    exact ⟨_ :: qs, rfl⟩
theorem zzc_sx (s : SSt M N k sc cs x) (hb : Bx X M N sc k G.W) (fx : Frx X) {st : S} {a : Stmt} {i : Nat} (c : cs st a = true) (hx : ∀ c pl ρ h, S' (.xx c pl ρ h) → G.PX c pl ρ h) (g : (s_zzc md r t x ρ h i st).good S' (fun _ _ _ => False)) : SX X M G a ρ h S' := by
  unfold s_zzc at g
  split at g
  · rename_i j hi
    split at g
    · rename_i qs a0 b0 c0 hj
      split at g
      · rename_i hq
        rw [Bool.and_eq_true_iff, decide_eq_true_eq] at hq
        obtain ⟨hq, z1, z2, z3, z4⟩ := hq
        obtain ⟨qs, rfl⟩ := allI_map hq
        intro w0 H0 σ w H D eh ex wk sk xc q
        obtain ⟨e1, k1⟩ := zz_close (j := j) (qs := qs) (i := a0) (c := b0) (s := c0) wk (by rw [eh]; exact hj) z1 z2 z3 z4
        exact s X G st a ρ _ S' hb fx c hx g w0 H0 σ _ H D (by show w.h.set j _ = _; rw [eh]) (ex.trans e1) k1 (sk.ext e1) xc q
      · exact g.elim
    · exact g.elim
  · exact g.elim
theorem all_tb {tb : List (Nat × Bool)} {y : Nat} (h : (tb.all fun q => L.exm.contains (q.1, y, q.2)) = true) {c : Nat} {b : Bool} (e : tbAt tb c = some b) : (c, y, b) ∈ L.exm := by
  induction tb with
  | nil => cases e
  | cons p tb ih =>
    obtain ⟨a, b'⟩ := p
    rw [List.all_cons, Bool.and_eq_true_iff] at h
    unfold tbAt at e
    split at e
    · rename_i hc
      have := Nat.eq_of_beq_eq_true hc
      subst this
      cases e
      simpa using h.1
    · exact ih h.2 e
theorem hand_p (hs : List Hd) {c : Nat} {pl : Pl} {ρ : Env} {h : Hc} {PX : Nat → Pl → Env → Hc → Prop} (hx : ∀ c pl ρ h, S' (.xx c pl ρ h) → PX c pl ρ h) (g : (hand hs c pl ρ h).good S' (fun _ _ _ => False)) : HandP S' PX hs c pl ρ h := by
  induction hs with
  | nil => exact hx _ _ _ _ g
  | cons d hs ih =>
    cases d with
    | c tb i d =>
      have g : (match tbAt tb c with | some true => T.ok (Out.nx (ρ.set i (some d)) h) | some false => hand hs c pl ρ h | none => .no : T Out).good S' (fun _ _ _ => False) := g
      split at g
      · exact ⟨true, by assumption, fun _ => g, fun z => (by cases z)⟩
      · exact ⟨false, by assumption, fun z => (by cases z), fun _ => ih g⟩
      · exact g.elim
    | f tb e i n =>
      unfold hand at g
      split at g
      · split at g
        · split at g
          · split at g
            · exact ⟨true, by assumption, fun _ => ⟨_, _, rfl, by assumption, by assumption, g⟩, fun z => (by cases z)⟩
            · exact g.elim
          · exact g.elim
        · exact g.elim
      · exact ⟨false, by assumption, fun z => (by cases z), fun _ => ih g⟩
      · exact g.elim
theorem hds_ok (F : Fac M L) (fx : Frx X) : ∀ {hs : List Hd} {hds : List ExceptHandler}, ckHds L N sc hs hds = true → HdOk X M N sc hs hds
  | hs, hds, c => by
    unfold ckHds at c
    split at c
    · exact .nil
    · rename_i tb i d hs y np x p1 e p2 pos' hds
      simp only [Bool.and_eq_true] at c
      obtain ⟨c1, c2, c3, c4, c5⟩ := c
      obtain ⟨p, hp, d1⟩ := List.any_eq_true.mp c1
      rw [Bool.and_eq_true_iff, decide_eq_true_eq] at d1
      obtain ⟨rfl, d2⟩ := d1
      obtain ⟨g1, g2, g3, g4⟩ := glob_ok c2
      unfold ckNm at c3
      rw [Bool.and_eq_true_iff, decide_eq_true_eq] at c3
      refine .c (F.cnm p hp) g1 g2 (fun c b e => F.exm _ (all_tb d2 e)) (fun X' G ρ hc P pd => ?_) c3.1 (kindS_ok fx.fn c3.2) ?_ (hds_ok F fx c5)
      · split at c4
        · exact cst_ok (a := .Constant _ _ _) c4 pd
        · cases c4
      · split at c4
        · rfl
        · cases c4
    · cases c
theorem try_ok (F : Fac M L) (s : SSt M N k sc cs x) (hb : Bx X M N sc k G.W) (fx : Frx X) {body : List S} {hs : List Hd} {b : List Stmt} {hds : List ExceptHandler} {pos : Pos} (c1 : all2 cs body b = true) (c2 : ckTry L N sc hs hds = true) (hx : ∀ c pl ρ h, S' (.xx c pl ρ h) → G.PX c pl ρ h)
    (g : (s_try_ md r t x ρ h body hs).good S' (fun _ _ _ => False)) : SX X M G (.Try b hds [] [] pos) ρ h S' := by
  have bd : ∀ X' W', Bx X' M N sc k W' → Frx X' → BX X' M ⟨W', fun c pl ρ' h' => HandP S' G.PX hs c pl ρ' h'⟩ b ρ h S' := by
    intro X' W' hb' fx'
    have g1 := good_bind.mp g
    have : BX X' M ⟨W', fun c pl ρ' h' => HandP S' G.PX hs c pl ρ' h'⟩ b ρ h (fun o => match o with | .xx c pl ρ h => HandP S' G.PX hs c pl ρ h | o => S' o) := by
      refine blk_bx (G := ⟨W', fun c pl ρ' h' => HandP S' G.PX hs c pl ρ' h'⟩) s hb' fx' c1 (fun c pl ρ h q => q) (T.good_mono (fun o q => ?_) (fun _ _ _ q => q) g1)
      cases o with
      | xx c pl ρ' h' => exact hand_p hs hx q
      | nx ρ' h' => exact q
      | rt f d h' => exact q
      | bk ρ' h' => exact q
      | ct ρ' h' => exact q
    intro w0 H0 σ w H D eh ex wk sk xc q
    refine this w0 H0 σ w H D eh ex wk sk xc fun o po => ?_
    cases o with
    | xx c pl ρ' h' => exact True.intro
    | nx ρ' h' => exact q _ po
    | rt f d h' => exact q _ po
    | bk ρ' h' => exact q _ po
    | ct ρ' h' => exact q _ po
  unfold ckTry at c2
  split at c2
  · rename_i tb ei i n y np en x0 p1 en' p2 f p3 p4 pos'
    simp only [Bool.and_eq_true, decide_eq_true_eq] at c2
    obtain ⟨d1, d2, d3, d4, d5, d6, d7, rfl, rfl⟩ := c2
    obtain ⟨p, hp, e1⟩ := List.any_eq_true.mp d1
    simp only [Bool.and_eq_true, decide_eq_true_eq] at e1
    obtain ⟨rfl, e2, e3, e4⟩ := e1
    obtain ⟨g1, g2, g3, g4⟩ := glob_ok d2
    obtain ⟨n1, n2, n3⟩ := nmB_ok d6
    unfold ckNm at d7
    rw [Bool.and_eq_true_iff, decide_eq_true_eq] at d7
    have xf := F.xf (p.1, n) (by simpa using e4)
    refine sx_try_as hb fx (F.cnm p hp) g1 g2 (fun c b e => F.exm _ (all_tb e2 e)) (fun c e0 => ?_) xf.1 xf.2 d3 d4 d5 n1 n2 d7.1 (kindS_ok fx.fn d7.2) bd
    have : ∀ {tb : List (Nat × Bool)}, (tb.all fun q => !q.2 || Nat.beq q.1 p.1) = true → tbAt tb c = some true → c = p.1 := by
      intro tb
      induction tb with
      | nil => intro _ e; cases e
      | cons q tb ih =>
        obtain ⟨a, b'⟩ := q
        intro h e
        rw [List.all_cons, Bool.and_eq_true_iff] at h
        unfold tbAt at e
        split at e
        · rename_i hc
          have := Nat.eq_of_beq_eq_true hc
          subst this
          cases e
          exact Nat.eq_of_beq_eq_true (by simpa using h.1)
        · exact ih h.2 e
    exact this e3 e0
  · rw [Bool.and_eq_true_iff] at c2
    cases hds with
    | nil => cases c2.1
    | cons h0 hds => exact sx_try hb fx (hds_ok F fx c2.2) bd
theorem stepS_ok (F : Fac M L) (hk2 : 2 ≤ k) (s : SE M N k ce r) (st : STe M N k ct t) (ss : SSt M N k sc cs x) : SSt M N k sc (ckS1 L N sc ce ct cs) (stepS md r t x) := by
  intro X G s1 a ρ h S' hb fx c hx g
  cases s1 with
  | set i e =>
    simp only [ckS1] at c
    split at c
    · simp only [Bool.and_eq_true, ckNm, decide_eq_true_eq] at c
      obtain ⟨⟨c1, c2⟩, c3, c4⟩ := c
      exact sx_set i hb.toBw (vlS s hb c3 hx (good_sx g)) c1 (kindS_ok fx.fn c2) (swap_no c4)
    · cases c
  | setFld C o n e =>
    simp only [ckS1] at c
    split at c
    · simp only [Bool.and_eq_true, decide_eq_true_eq] at c
      obtain ⟨rfl, c2, c3, c4, c5, c6⟩ := c
      refine sx_setFld hb.toBw (swap_no c4) (vlS s hb c3 hx (T.good_mono (fun p q => vlS s hb c2 hx (T.good_mono (fun p2 q2 => ?_) (fun _ _ _ q => q) (good_sx q))) (fun _ _ _ q => q) (good_sx g)))
      split at q2
      · split at q2
        · split at q2
          · rename_i hl
            rw [Bool.and_eq_true_iff] at hl
            have := Nat.eq_of_beq_eq_true hl.1
            subst this
            exact ⟨_, _, _, by assumption, by assumption, F.plain _ (by simpa using c5), F.noat (_, n) (by simpa using c6), Nat.blt_eq.mp hl.2, q2⟩
          · exact q2.elim
        · exact q2.elim
      · exact q2.elim
    · cases c
  | setIx o i e =>
    simp only [ckS1] at c
    split at c
    · simp only [Bool.and_eq_true] at c
      obtain ⟨c1, c2, c3, c4, c5⟩ := c
      refine sx_putIx hb (sole_no c4) stores_no (assign_no c5) (vlS s hb c3 hx (T.good_mono (fun p q => vlS s hb c1 hx (T.good_mono (fun p2 q2 => vlS s hb c2 hx (T.good_mono (fun p3 q3 => ?_) (fun _ _ _ q => q) (good_sx q2))) (fun _ _ _ q => q) (good_sx q))) (fun _ _ _ q => q) (good_sx g)))
      split at q3
      · split at q3
        · split at q3
          · exact ⟨_, _, _, by assumption, by assumption, by assumption, q3⟩
          · exact q3.elim
        · exact q3.elim
      · exact q3.elim
    · cases c
  | ex e =>
    simp only [ckS1] at c
    split at c
    · simp only [Bool.and_eq_true] at c
      exact sx_expr (vlS s hb c.1 hx (good_sx g)) (swap_no c.2)
    · cases c
  | ite c1 u v =>
    simp only [ckS1] at c
    split at c
    · simp only [Bool.and_eq_true] at c
      refine sx_if (st X sc G _ _ ρ h _ hb c.1 (T.good_mono (fun p q => ⟨fun e => ?_, fun e => ?_⟩) (fun c pl h q => hx c pl ρ h q) (good_sx g)))
      · rw [if_pos e] at q
        exact blk_bx ss hb fx c.2.1 hx q
      · rw [if_neg (by rw [e]; exact Bool.false_ne_true)] at q
        exact blk_bx ss hb fx c.2.2 hx q
    · cases c
  | for_ tg tp ik its body =>
    simp only [ckS1] at c
    split at c
    · simp only [Bool.and_eq_true] at c
      obtain ⟨c1, c2, c3, c4⟩ := c
      refine sx_for (T := tg) (fun ds i ρ h => (forGo (blk x body) tg tp (ds.drop i) ρ h).good S' (fun _ _ _ => False)) hb (it_ix F s hb c2 (T.good_mono (fun p q => ?_) (fun c pl h q => hx c pl ρ h q) (good_sx g))) (fold_no c3)
      split at q
      · rename_i ds hds
        refine ⟨ds, hds, by rw [List.drop_zero]; exact q, fun i d ρ' h' hd hi => ?_, fun ρ' h' hi => ?_⟩
        · have hdrop : ds.drop i = d :: ds.drop (i + 1) := by
            obtain ⟨hlt, e⟩ := List.getElem?_eq_some_iff.mp hd
            rw [← e, List.drop_eq_getElem_cons hlt]
          rw [hdrop] at hi
          have h1 := good_bind.mp hi
          cases ha : asg tg tp d ρ' with
          | none => rw [ha] at h1; exact h1.elim
          | some ρ2 =>
            rw [ha] at h1
            refine tg_gx hb c1 ha (blk_bx ss hb fx c4 (fun c pl ρ h q => hx c pl ρ h q) (T.good_mono (fun o q => ?_) (fun _ _ _ q => q) (good_bind.mp h1)))
            cases o with
            | nx ρ3 h3 => exact q
            | ct ρ3 h3 => exact q
            | bk ρ3 h3 => exact q
            | rt f d h3 => exact q
            | xx c pl ρ3 h3 => exact q
        · have : ds.drop ds.length = [] := List.drop_length
          rw [this] at hi
          exact hi
      · exact q.elim
    · cases c
  | while_ c1 body =>
    simp only [ckS1] at c
    split at c
    · simp only [Bool.and_eq_true] at c
      refine sx_while (fun m ρ h => (whileGo (t c1) (blk x body) m ρ h).good S' (fun _ _ _ => False)) hb md.fuel g fun m ρ' h' hi => ?_
      cases m with
      | zero => exact hi.elim
      | succ m =>
        refine st X sc G _ _ ρ' h' _ hb c.1 (T.good_mono (fun p q => ⟨fun e => ?_, fun e => ?_⟩) (fun c pl h q => hx c pl ρ' h q) (good_sx hi))
        · rw [if_pos e] at q
          refine blk_bx ss hb fx c.2 (fun c pl ρ h q => hx c pl ρ h q) (T.good_mono (fun o q => ?_) (fun _ _ _ q => q) (good_bind.mp q))
          cases o with
          | nx ρ3 h3 => exact ⟨m, Nat.lt_succ_self m, q⟩
          | ct ρ3 h3 => exact ⟨m, Nat.lt_succ_self m, q⟩
          | bk ρ3 h3 => exact q
          | rt f d h3 => exact q
          | xx c pl ρ3 h3 => exact q
        · rw [if_neg (by rw [e]; exact Bool.false_ne_true)] at q
          exact q
    · cases c
  | ret e =>
    simp only [ckS1] at c
    split at c
    · exact sx_ret (s X sc G _ _ ρ h _ hb c (T.good_mono (fun p q => q) (fun c pl h q => hx c pl ρ h q) (good_sx g)))
    · cases c
  | retN =>
    simp only [ckS1] at c
    split at c
    · exact sx_retN g
    · cases c
  | raise C fl es =>
    simp only [ckS1] at c
    split at c
    · split at c
      · simp only [Bool.and_eq_true] at c
        obtain ⟨c1, c2, c3⟩ := c
        obtain ⟨g1, g2, g3, g4⟩ := glob_ok c3
        exact sx_raise0 hb (F.exc0 C (by simpa using c1) _ (by simpa using c2)) g1 g2 (hx _ _ _ _ g)
      · simp only [Bool.and_eq_true] at c
        obtain ⟨c1, c2, c3, c4, c5⟩ := c
        obtain ⟨g1, g2, g3, g4⟩ := glob_ok c3
        exact sx_raise1 hb (F.exc1 (C, _) (by simpa using c1) _ (by simpa using c2)) hk2 g1 g2 (star_cons [] c5) (vlS s hb c4 hx (T.good_mono (fun p q => hx _ _ _ _ q) (fun _ _ _ q => q) (good_sx g)))
      · cases c
    · cases c
  | try_ body hs =>
    simp only [ckS1] at c
    split at c
    · rw [Bool.and_eq_true_iff] at c
      exact try_ok (md := md) (r := r) (t := t) F ss hb fx c.1 c.2 hx g
    · cases c
  | pass =>
    simp only [ckS1] at c
    split at c
    · exact sx_pass g
    · cases c
  | brk =>
    simp only [ckS1] at c
    split at c
    · exact sx_break g
    · cases c
  | fz is s1 => exact fz_sx ss hb fx c hx g
  | zzc i s1 => exact zzc_sx (md := md) (r := r) (t := t) ss hb fx c hx g
  | _ => cases c
end
end Yl

set_option maxRecDepth 100000
set_option maxHeartbeats 4000000
/-! Y18: the whole program. -/
namespace Yl
open PySem PySem.Spec PyProof.Rows L2
open T (good_bind)
def ckSS (L : Lw) (N : List Str) (sc : Scope) (m : Nat) : Nat → CkS
  | 0 => fun _ _ => false
  | n + 1 => ckS1 L N sc (ckEE L N m).1 (ckEE L N m).2 (ckSS L N sc m n)
section
variable {M : Mx} {L : Lw} {N : List Str} {k k' : Nat} {md : Md} {sc : Scope}
theorem evS_ok (F : Fac M L) (A : Cls2 M L md k') (hk : k' + 1 ≤ k) (hk2 : 2 ≤ k) (hgl : ∀ g, md.gl g = L.pg.gls.getD g .non) (hmk : ∀ j, md.mk_ j = L.pg.mks.getD j (0, 0, [])) (m : Nat) : ∀ n, SSt M N k sc (ckSS L N sc m n) (evS md m n)
  | 0 => fun X G s a ρ h S' hb fx c hx g => (by cases c)
  | n + 1 => stepS_ok F hk2 (evE_ok F A hk hgl hmk m).1 (evE_ok F A hk hgl hmk m).2 (evS_ok F A hk hk2 hgl hmk m n)
end
/-- a def of the module -/
structure FnS (M : Mx) (L : Lw) (m n : Nat) (f : Nat) (x : Str) : Prop where
  ex : ∃ (fa : Addr) (fd : FuncData) (qual : Str) (params : Arguments) (body : List Stmt) (scope : Scope) (kws : List (Str × V)) (N ps : List Str) (F : Fn), FunD M.K x qual params body scope [] kws fa fd ∧ FnScope N ps scope ∧ M.mg x = some (.ref fa) ∧ Binds M.K fd ps [] ∧ L.pg.fns[f]? = some (some F) ∧ F.ns = N.length ∧ F.ps = ps.length ∧ all2 (ckSS L N scope m n) F.body body = true
/-- a class's __init__ -/
structure MkS (M : Mx) (L : Lw) (m n : Nat) (C f : Nat) (dfl : List D) : Prop where
  ex : ∃ (fa : Addr) (fd : FuncData) (nm qual : Str) (params : Arguments) (body : List Stmt) (scope : Scope) (dv0 : List V) (kws : List (Str × V)) (N ps : List Str) (F : Fn) (dvs : List V) (dus : List Value), FunD M.K nm qual params body scope dv0 kws fa fd ∧ FnScope N ps scope ∧ Mk M.K (M.ca C) fa ∧ Binds M.K fd ps dus ∧ Vals dvs dus ∧ (∀ F m, RepL M F m dvs dfl) ∧ L.pg.fns[f]? = some (some F) ∧ F.ns = N.length ∧ F.ps = ps.length ∧ all2 (ckSS L N scope m n) F.body body = true
structure Prg (M : Mx) (L : Lw) (m n : Nat) : Prop where
  fac : Fac M L
  draw : L.dr = true → ∃ ps, FnC M "_law_draw" ps 3 conDraw
  fn : ∀ f x, L.fnm[f]? = some (some x) → FnS M L m n f x
  make : ∀ (j C f : Nat) (dfl : List D), L.pg.mks[j]? = some (C, f, dfl) → ∀ x, (C, x) ∈ L.cnm → MkS M L m n C f dfl
def mdAt (L : Lw) (m n fuel j : Nat) : Md := ⟨fun j => L.pg.mks.getD j (0, 0, []), run L.pg m n fuel j, fun g => L.pg.gls.getD g .non, fuel⟩
def conOf (md : Md) (f : Nat) : Con := fun ds h P PX => (md.run f ds h).good (fun p => P p.1 p.2.1 p.2.2) PX
theorem fnOk_none {P : Program} {w : World} {K : PySem.W.Frag} {mg : Str → Option Value} {base : Heap} {CX : CXT} {k : Nat} {f : Addr} {fd : FuncData} {ps : List Str} {sp : Sp} (h : ∀ vs H Q E, ¬ sp vs H Q E) : FnOk P w K mg base CX k f fd ps sp :=
  ⟨fun vs H Q E hs => absurd hs (h vs H Q E), fun A outer s H args us vs Q E hr he hb hv hs => absurd hs (h vs H Q E)⟩
theorem body_ok {M : Mx} {L : Lw} {m n fuel j : Nat} {N ps : List Str} {scope : Scope} {body : List Stmt} {F : Fn} {f : Nat} (P : Prg M L m n) (A : Cls2 M L (mdAt L m n fuel j) (2 * j + 3)) (hf : L.pg.fns[f]? = some (some F)) (hns : F.ns = N.length) (hps : F.ps = ps.length) (hc : all2 (ckSS L N scope m n) F.body body = true)
    {x qual : Str} {params : Arguments} {dv0 : List V} {kws : List (Str × V)} {fa : Addr} {fd : FuncData} (FD : FunD M.K x qual params body scope dv0 kws fa fd) (FS : FnScope N ps scope) : FnOk M.P M.w M.K M.mg M.base (L2.CX M.P M.w) (2 * (j + 1) + 3) fa fd ps (spC M (conOf (mdAt L m n fuel (j + 1)) f)) := by
  have run_eq : ∀ ds h, (mdAt L m n fuel (j + 1)).run f ds h = if Nat.beq ds.length F.ps then (blk (evS (mdAt L m n fuel j) m n) F.body (ds.map some ++ List.replicate (F.ns - F.ps) none) h).calm.bind ends else .no := by
    intro ds h
    show run1 (mdAt L m n fuel j) m n (L.pg.fns.getD f none) ds h = _
    rw [List.getD_eq_getElem?_getD, hf]; rfl
  refine def_ok FD FS (fun ds h P PX c => ?_) (fun X W hb st fr fn ds h Pq PX c => ?_)
  · unfold conOf at c
    rw [run_eq] at c
    split at c
    · rename_i hl
      rw [Nat.eq_of_beq_eq_true hl, hps]
    · exact c.elim
  · unfold conOf at c
    rw [run_eq] at c
    split at c
    · rename_i hl
      have hl := Nat.eq_of_beq_eq_true hl
      have e : begin N ds = ds.map some ++ List.replicate (F.ns - F.ps) none := by unfold begin; rw [hns, hl]
      rw [e]
      have key := blk_bx (G := ⟨W, fun c pl _ h => PX c pl h⟩) (S' := fun o => match o with | .nx _ h => Pq false .non h | .rt f d h => Pq f d h | .xx c pl _ h => PX c pl h | _ => False) (evS_ok P.fac A (Nat.le_refl _) (by omega) (fun _ => rfl) (fun _ => rfl) m n) (k := 2 * j + 4) hb ⟨st, fr, fn⟩ hc (fun c pl ρ h q => q) (T.good_mono (fun o q => by
        cases o with
        | nx ρ h => exact q
        | rt f d h => exact q
        | bk ρ h => exact q
        | ct ρ h => exact q
        | xx c pl ρ h => exact q) (fun _ _ _ q => q) (calm_good (good_bind.mp c)))
      refine BX.mono key fun o q => ?_
      cases o with
      | nx ρ h => exact q
      | rt f d h => exact q
      | bk ρ h => exact q
      | ct ρ h => exact q
      | xx c pl ρ h => exact True.intro
    · exact c.elim
theorem draw_up {M : Mx} {k k' : Nat} (h : ∃ ps, FnC M "_law_draw" ps k conDraw) (hk : k ≤ k') : ∃ ps, FnC M "_law_draw" ps k' conDraw := by
  obtain ⟨ps, f, fd, h1, h2⟩ := h
  exact ⟨ps, f, fd, h1.mono hk, h2⟩
/-- the program keeps what it computes -/
theorem prg_ok {M : Mx} {L : Lw} {m n fuel : Nat} (P : Prg M L m n) : ∀ j, Cls2 M L (mdAt L m n fuel j) (2 * j + 3)
  | 0 => ⟨fun f x h => by
      obtain ⟨fa, fd, qual, params, body, scope, kws, N, ps, F, h1, h2, h3, h4, h5, h6, h7, h8⟩ := (P.fn f x h).ex
      exact ⟨ps, fa, fd, fnOk_none fun vs H Q E hs => (by obtain ⟨w, ds, Pq, PX, _, _, c, _⟩ := hs; exact c), h3, h1.kp, h4⟩,
    fun d => draw_up (P.draw d) (by omega), fun j C f dfl h x hx => by
      obtain ⟨fa, fd, nm, qual, params, body, scope, dv0, kws, N, ps, F, dvs, dus, h1, h2, h3, h4, h5, h6, h7, h8⟩ := (P.make j C f dfl h x hx).ex
      exact ⟨ps, P.fac.cnm _ hx, fa, fd, dvs, dus, h3, fnOk_none fun vs H Q E hs => (by obtain ⟨w, ds, Pq, PX, _, _, c, _⟩ := hs; exact c), h4, h5, h6⟩⟩
  | j + 1 => by
    have A := prg_ok (fuel := fuel) P j
    refine ⟨fun f x h => ?_, fun d => draw_up (P.draw d) (by omega), fun i C f dfl h x hx => ?_⟩
    · obtain ⟨fa, fd, qual, params, body, scope, kws, N, ps, F, h1, h2, h3, h4, h5, h6, h7, h8⟩ := (P.fn f x h).ex
      exact ⟨ps, fa, fd, body_ok P A h5 h6 h7 h8 h1 h2, h3, h1.kp, h4⟩
    · obtain ⟨fa, fd, nm, qual, params, body, scope, dv0, kws, N, ps, F, dvs, dus, h1, h2, h3, h4, h5, h6, h7, h8, h9, h10⟩ := (P.make i C f dfl h x hx).ex
      exact ⟨ps, P.fac.cnm _ hx, fa, fd, dvs, dus, h3, body_ok P A h7 h8 h9 h10 h1 h2, h4, h5, h6⟩
end Yl

set_option maxRecDepth 100000
set_option maxHeartbeats 4000000
/-! Yd: what _law_draw computes on the opened cell. -/
namespace Yl
def drawB : List S := [(.ite (.op2 .eq (.op2 .ix (.var 0) (.cst (.int 2))) (.cst (.int 0))) [(.ite (.op2 .lt (.op2 .ix (.var 0) (.cst (.int 1))) (.bi .len [(.op2 .ix (.var 0) (.cst (.int 0)))])) [(.set 3 (.op2 .ix (.op2 .ix (.var 0) (.cst (.int 0))) (.op2 .ix (.var 0) (.cst (.int 1))))),
   (.setIx (.var 0) (.cst (.int 1)) (.op2 .add (.op2 .ix (.var 0) (.cst (.int 1))) (.cst (.int 1)))),
   (.ite (.op2 .ge (.var 3) (.op2 .pow (.cst (.int 10)) (.cst (.int 18)))) [(.setIx (.var 0) (.cst (.int 2)) (.var 3))] [(.setIx (.var 0) (.cst (.int 3)) (.op2 .mod (.bi .int [(.op2 .add (.op2 .add (.op2 .mul (.op2 .ix (.var 0) (.cst (.int 3))) (.cst (.int 48271))) (.op2 .mul (.var 3) (.cst (.int 69621)))) (.cst (.int 11)))]) (.cst (.int 2147483647))))])] [(.setIx (.var 0) (.cst (.int 3)) (.op2 .mod (.bi .int [(.op2 .add (.op2 .mul (.op2 .ix (.var 0) (.cst (.int 3))) (.cst (.int 48271))) (.cst (.int 7)))]) (.cst (.int 2147483647))))])] []),
   (.ite (.op2 .gt (.op2 .ix (.var 0) (.cst (.int 2))) (.cst (.int 0))) [(.set 2 (.op2 .mod (.bi .int [(.op2 .ix (.var 0) (.cst (.int 2)))]) (.var 1))),
   (.setIx (.var 0) (.cst (.int 2)) (.op2 .fdiv (.op2 .ix (.var 0) (.cst (.int 2))) (.var 1))),
   (.ret (.var 2))] []),
   (.ret (.op2 .mod (.op2 .mod (.bi .int [(.op2 .mul (.op2 .ix (.var 0) (.cst (.int 3))) (.cst (.int 16807)))]) (.cst (.int 2147483629))) (.var 1)))]
/-- the value of an expression -/
def vr (md : Md) (n : Nat) (e : E) (ρ : Env) (h : Hc) (d : D) : Prop := (evE md n).1 e ρ h = .ok (false, d, h)
def tr (md : Md) (n : Nat) (e : E) (ρ : Env) (h : Hc) (b : Bool) : Prop := (evE md n).2 e ρ h = .ok (b, h)
def sr (md : Md) (m n : Nat) (s : S) (ρ : Env) (h : Hc) (o : Out) : Prop := evS md m n s ρ h = .ok o
def br (md : Md) (m n : Nat) (s : List S) (ρ : Env) (h : Hc) (o : Out) : Prop := blk (evS md m n) s ρ h = .ok o
section
variable {md : Md} {m n : Nat} {ρ : Env} {h : Hc}
theorem vr.vl {e : E} {d : D} (k : vr md n e ρ h d) : vl (evE md n).1 e ρ h = .ok (d, h) := by
  unfold Yl.vl; rw [k]; rfl
theorem vr_var {i : Nat} {d : D} (k : ρ[i]? = some (some d)) : vr md (n + 1) (.var i) ρ h d := by
  show e_var md (evE md n).1 (evE md n).2 ρ h i = _
  unfold e_var; rw [k]
theorem vr_cst {d : D} : vr md (n + 1) (.cst d) ρ h d := rfl
theorem vr_op2 {o : O2} {a b : E} {x y z : D} (ka : vr md n a ρ h x) (kb : vr md n b ρ h y) (ko : op2 h o x y = some (false, z)) : vr md (n + 1) (.op2 o a b) ρ h z := by
  show e_op2 md (evE md n).1 (evE md n).2 ρ h o a b = _
  unfold e_op2; rw [ka.vl]; show T.bind (Yl.vl (evE md n).1 b ρ h) _ = _; rw [kb.vl]; show ot h _ = _; rw [ko]; rfl
theorem vr_bi {b : Bi} {a : E} {x z : D} (ka : vr md n a ρ h x) (ko : biN h b [x] = some (false, z)) : vr md (n + 1) (.bi b [a]) ρ h z := by
  show e_bi md (evE md n).1 (evE md n).2 ρ h b [a] = _
  unfold e_bi vls; rw [ka.vl]; show ot h _ = _; rw [ko]; rfl
theorem tr_op2 {o : O2} {a b : E} {k : Bool} (kv : vr md (n + 1) (.op2 o a b) ρ h (.bl k)) : tr md (n + 1) (.op2 o a b) ρ h k := by
  show T.bind ((evE md (n + 1)).1 (.op2 o a b) ρ h) _ = _
  rw [kv]; rfl
theorem sr_set {i : Nat} {e : E} {d : D} (k : vr md m e ρ h d) : sr md m (n + 1) (.set i e) ρ h (.nx (ρ.set i (some d)) h) := by
  show s_set md (evE md m).1 (evE md m).2 (evS md m n) ρ h i e = _
  unfold s_set; rw [k.vl]; rfl
theorem sr_ret {e : E} {d : D} (k : vr md m e ρ h d) : sr md m (n + 1) (.ret e) ρ h (.rt false d h) := by
  show s_ret md (evE md m).1 (evE md m).2 (evS md m n) ρ h e = _
  unfold s_ret; rw [k]; rfl
theorem sr_ite {c : E} {a b : List S} {t : Bool} {o : Out} (k : tr md m c ρ h t) (ks : br md m n (if t then a else b) ρ h o) : sr md m (n + 1) (.ite c a b) ρ h o := by
  show s_ite md (evE md m).1 (evE md m).2 (evS md m n) ρ h c a b = _
  unfold s_ite; rw [k]; cases t <;> exact ks
theorem sr_setIx {a k v : E} {j : Nat} {c z y d : D} (kv : vr md m v ρ h y) (ka : vr md m a ρ h (.ref j)) (kk : vr md m k ρ h z) (hj : h[j]? = some (some c)) (hp : putIx c z y = some d) :
    sr md m (n + 1) (.setIx a k v) ρ h (.nx ρ (h.set j (some d))) := by
  show s_setIx md (evE md m).1 (evE md m).2 (evS md m n) ρ h a k v = _
  unfold s_setIx; rw [kv.vl]; show sx ρ _ (Yl.vl (evE md m).1 a ρ h) = _; rw [ka.vl]; show sx ρ _ (Yl.vl (evE md m).1 k ρ h) = _; rw [kk.vl]
  show (match h[j]? with | some (some c) => (match putIx c z y with | some d => T.ok (Out.nx ρ (h.set j (some d))) | none => .no) | _ => .no) = _
  rw [hj]; show (match putIx c z y with | some d => T.ok (Out.nx ρ (h.set j (some d))) | none => .no) = _; rw [hp]
theorem br_nil : br md m n [] ρ h (.nx ρ h) := rfl
theorem br_one {s : S} {o : Out} (k : sr md m n s ρ h o) : br md m n [s] ρ h o := k
theorem br_cons {s s2 : S} {ss : List S} {ρ' : Env} {h' : Hc} {o : Out} (k : sr md m n s ρ h (.nx ρ' h')) (ks : br md m n (s2 :: ss) ρ' h' o) : br md m n (s :: s2 :: ss) ρ h o := by
  show T.bind (evS md m n s ρ h) _ = _
  rw [k]; exact ks
theorem br_stop {s s2 : S} {ss : List S} {f : Bool} {d : D} {h' : Hc} (k : sr md m n s ρ h (.rt f d h')) : br md m n (s :: s2 :: ss) ρ h (.rt f d h') := by
  show T.bind (evS md m n s ρ h) _ = _
  rw [k]; rfl
end
def zz' (qs : List Int) (i c s : Int) : D := .lst [.lst (qs.map D.int), .int i, .int c, .int s]
section
variable {md : Md} {n : Nat} {ρ : Env} {qs : List Int} {i c s : Int} (h0 : ρ[0]? = some (some (.ref 0)))
theorem z_ix {k : Nat} {d : D} (h0 : ρ[0]? = some (some (.ref 0))) (e : [D.lst (qs.map D.int), .int i, .int c, .int s][k]? = some d) (hk : k < 4) : vr md (n + 2) (.op2 .ix (.var 0) (.cst (.int (.ofNat k)))) ρ [some (zz' qs i c s)] d := by
  refine vr_op2 (vr_var h0) vr_cst ?_
  match k, hk, e with
  | 0, _, rfl => rfl
  | 1, _, rfl => rfl
  | 2, _, rfl => rfl
  | 3, _, rfl => rfl
end

section
variable {md : Md} {n : Nat} {ρ : Env} {qs : List Int} {i c s : Int}
theorem z1 (h0 : ρ[0]? = some (some (.ref 0))) : vr md (n + 2) (.op2 .ix (.var 0) (.cst (.int 1))) ρ [some (zz' qs i c s)] (.int i) := z_ix (k := 1) h0 rfl (by decide)
theorem z2 (h0 : ρ[0]? = some (some (.ref 0))) : vr md (n + 2) (.op2 .ix (.var 0) (.cst (.int 2))) ρ [some (zz' qs i c s)] (.int c) := z_ix (k := 2) h0 rfl (by decide)
theorem z3 (h0 : ρ[0]? = some (some (.ref 0))) : vr md (n + 2) (.op2 .ix (.var 0) (.cst (.int 3))) ρ [some (zz' qs i c s)] (.int s) := z_ix (k := 3) h0 rfl (by decide)
theorem z0 (h0 : ρ[0]? = some (some (.ref 0))) : vr md (n + 2) (.op2 .ix (.var 0) (.cst (.int 0))) ρ [some (zz' qs i c s)] (.lst (qs.map D.int)) := z_ix (k := 0) h0 rfl (by decide)
end
theorem draw_run (md : Md) (qs : List Int) (i c s n : Int) (hi : 0 ≤ i) (hc : 0 ≤ c) (hs : 0 ≤ s) (hs2 : s < 2 ^ 31) (hn : 0 < n) (hn2 : n < 1000000000) :
    ∃ k i' c' s', 0 ≤ k ∧ k < n ∧ 0 ≤ i' ∧ 0 ≤ c' ∧ 0 ≤ s' ∧ s' < 2 ^ 31 ∧ br md 12 6 drawB [some (.ref 0), some (.int n), none, none] [some (zz' qs i c s)] (.rt false (.int k) [some (zz' qs i' c' s')]) := by
  have end_ : ∀ (i c s : Int) (x : Option D), 0 ≤ i → 0 ≤ c → 0 ≤ s → s < 2 ^ 31 → ∃ k i' c' s', 0 ≤ k ∧ k < n ∧ 0 ≤ i' ∧ 0 ≤ c' ∧ 0 ≤ s' ∧ s' < 2 ^ 31 ∧ br md 12 6 drawB.tail [some (.ref 0), some (.int n), none, x] [some (zz' qs i c s)] (.rt false (.int k) [some (zz' qs i' c' s')]) := by
    intro i c s x hi hc hs hs2
    by_cases h : 0 < c
    · refine ⟨c % n, i, c / n, s, Int.emod_nonneg _ (by omega), Int.emod_lt_of_pos _ hn, hi, Int.ediv_nonneg hc (by omega), hs, hs2, ?_⟩
      refine br_stop (sr_ite (t := true) (tr_op2 (vr_op2 (z2 rfl) vr_cst (by simp [op2, o_gt, h]))) ?_)
      refine br_cons (sr_set (vr_op2 (vr_bi (z2 rfl) (z := .int c) rfl) (vr_var rfl) (z := .int (c % n)) (by simp [op2, o_mod, hn]))) ?_
      refine br_cons (sr_setIx (vr_op2 (z2 rfl) (vr_var rfl) (z := .int (c / n)) ?_) (vr_var rfl) vr_cst rfl (d := zz' qs i (c / n) s) rfl) (br_one (sr_ret (vr_var rfl)))
      simp [op2, o_fdiv, hn]; omega
    · refine ⟨s * 16807 % 2147483629 % n, i, c, s, Int.emod_nonneg _ (by omega), Int.emod_lt_of_pos _ hn, hi, hc, hs, hs2, ?_⟩
      refine br_cons (sr_ite (t := false) (tr_op2 (vr_op2 (z2 rfl) vr_cst (by simp [op2, o_gt]; omega))) br_nil) ?_
      exact br_one (sr_ret (vr_op2 (vr_op2 (vr_bi (vr_op2 (z3 rfl) vr_cst (z := .int (s * 16807)) rfl) rfl) vr_cst (z := .int (s * 16807 % 2147483629)) rfl) (vr_var rfl) (by simp [op2, o_mod, hn])))
  by_cases h0 : c = 0
  · subst h0
    have t0 : tr md 12 (.op2 .eq (.op2 .ix (.var 0) (.cst (.int 2))) (.cst (.int 0))) [some (.ref 0), some (.int n), none, none] [some (zz' qs i 0 s)] true := tr_op2 (vr_op2 (z2 rfl) vr_cst rfl)
    by_cases h1 : i < qs.length
    · have hq : ∃ q, (qs.map D.int)[i.toNat]? = some (.int q) := by
        have : i.toNat < qs.length := by omega
        exact ⟨qs[i.toNat], by simp [this]⟩
      obtain ⟨q, hq⟩ := hq
      have t1 : tr md 12 (.op2 .lt (.op2 .ix (.var 0) (.cst (.int 1))) (.bi .len [(.op2 .ix (.var 0) (.cst (.int 0)))])) [some (.ref 0), some (.int n), none, none] [some (zz' qs i 0 s)] true :=
        tr_op2 (vr_op2 (z1 rfl) (vr_bi (z0 rfl) (z := .int qs.length) (by simp [biN, bi1, b_len, deref])) (by simp [op2, o_lt, h1]))
      have s1 : sr md 12 4 (.set 3 (.op2 .ix (.op2 .ix (.var 0) (.cst (.int 0))) (.op2 .ix (.var 0) (.cst (.int 1))))) [some (.ref 0), some (.int n), none, none] [some (zz' qs i 0 s)] (.nx [some (.ref 0), some (.int n), none, some (.int q)] [some (zz' qs i 0 s)]) :=
        sr_set (vr_op2 (z0 rfl) (z1 rfl) (by
          have hl : i.toNat < qs.length := by omega
          simp only [op2, o_ix, deref, List.length_map, ixN, if_pos hi, if_pos hl, Option.bind, hq]; rfl))
      have s2 : sr md 12 4 (.setIx (.var 0) (.cst (.int 1)) (.op2 .add (.op2 .ix (.var 0) (.cst (.int 1))) (.cst (.int 1)))) [some (.ref 0), some (.int n), none, some (.int q)] [some (zz' qs i 0 s)] (.nx [some (.ref 0), some (.int n), none, some (.int q)] [some (zz' qs (i + 1) 0 s)]) :=
        sr_setIx (j := 0) (c := zz' qs i 0 s) (y := .int (i + 1)) (d := zz' qs (i + 1) 0 s) (vr_op2 (z1 rfl) vr_cst rfl) (vr_var rfl) vr_cst rfl rfl
      by_cases h2 : q ≥ 1000000000000000000
      · obtain ⟨k, i', c', s', a1, a2, a3, a4, a5, a6, a7⟩ := end_ (i + 1) q s (some (.int q)) (by omega) (by omega) hs hs2
        refine ⟨k, i', c', s', a1, a2, a3, a4, a5, a6, br_cons (sr_ite t0 (br_one (sr_ite t1 (br_cons s1 (br_cons s2 (br_one (sr_ite (t := true) (tr_op2 (vr_op2 (vr_var rfl) (vr_op2 vr_cst vr_cst rfl) ?_)) (br_one (sr_setIx (vr_var rfl) (vr_var rfl) vr_cst rfl rfl))))))))) a7⟩
        simp [op2, o_ge]; omega
      · have e1 : 0 ≤ (s * 48271 + q * 69621 + 11) % 2147483647 := Int.emod_nonneg _ (by omega)
        have e2 : (s * 48271 + q * 69621 + 11) % 2147483647 < 2147483647 := Int.emod_lt_of_pos _ (by omega)
        obtain ⟨k, i', c', s', a1, a2, a3, a4, a5, a6, a7⟩ := end_ (i + 1) 0 ((s * 48271 + q * 69621 + 11) % 2147483647) (some (.int q)) (by omega) (by omega) e1 (by omega)
        refine ⟨k, i', c', s', a1, a2, a3, a4, a5, a6, br_cons (sr_ite t0 (br_one (sr_ite t1 (br_cons s1 (br_cons s2 (br_one (sr_ite (t := false) (tr_op2 (vr_op2 (vr_var rfl) (vr_op2 vr_cst vr_cst rfl) ?_)) (br_one (sr_setIx (vr_op2 (vr_bi (vr_op2 (vr_op2 (vr_op2 (z3 rfl) vr_cst rfl) (vr_op2 (vr_var rfl) vr_cst rfl) rfl) vr_cst rfl) rfl) vr_cst rfl) (vr_var rfl) vr_cst rfl rfl))))))))) a7⟩
        simp [op2, o_ge]; omega
    · have t1 : tr md 12 (.op2 .lt (.op2 .ix (.var 0) (.cst (.int 1))) (.bi .len [(.op2 .ix (.var 0) (.cst (.int 0)))])) [some (.ref 0), some (.int n), none, none] [some (zz' qs i 0 s)] false :=
        tr_op2 (vr_op2 (z1 rfl) (vr_bi (z0 rfl) (z := .int qs.length) (by simp [biN, bi1, b_len, deref])) (by simp [op2, o_lt]; omega))
      have e1 : 0 ≤ (s * 48271 + 7) % 2147483647 := Int.emod_nonneg _ (by omega)
      have e2 : (s * 48271 + 7) % 2147483647 < 2147483647 := Int.emod_lt_of_pos _ (by omega)
      obtain ⟨k, i', c', s', a1, a2, a3, a4, a5, a6, a7⟩ := end_ i 0 ((s * 48271 + 7) % 2147483647) none hi (by omega) e1 (by omega)
      exact ⟨k, i', c', s', a1, a2, a3, a4, a5, a6, br_cons (sr_ite t0 (br_one (sr_ite t1 (br_one (sr_setIx (vr_op2 (vr_bi (vr_op2 (vr_op2 (z3 rfl) vr_cst rfl) vr_cst rfl) rfl) vr_cst rfl) (vr_var rfl) vr_cst rfl rfl))))) a7⟩
  · have t0 : tr md 12 (.op2 .eq (.op2 .ix (.var 0) (.cst (.int 2))) (.cst (.int 0))) [some (.ref 0), some (.int n), none, none] [some (zz' qs i c s)] false := tr_op2 (vr_op2 (z2 rfl) vr_cst (by simp [op2, o_eq, deref, depOk, eqv, h0]))
    obtain ⟨k, i', c', s', a1, a2, a3, a4, a5, a6, a7⟩ := end_ i c s none hi hc hs hs2
    exact ⟨k, i', c', s', a1, a2, a3, a4, a5, a6, br_cons (sr_ite t0 br_nil) a7⟩
end Yl

set_option maxRecDepth 100000
set_option maxHeartbeats 4000000
/-! Y21: _law_draw keeps its contract. -/
namespace Yl
open PySem PySem.Spec PyProof.Rows L2
open T (good_bind)
def L0 : Lw := ⟨⟨[], [], []⟩, [], [], ["int", "len"], [], [], [], [], [], [], [], false⟩
def md0 : Md := ⟨fun _ => (0, 0, []), fun _ _ _ => .no, fun _ => .non, 0⟩
section
variable {M : Mx} {N ps : List Str} {scope : Scope} {body : List Stmt} {x qual : Str} {params : Arguments} {kws : List (Str × V)} {fa : Addr} {fd : FuncData}
theorem fac0 (h1 : M.mg "int" = none) (h2 : M.mg "len" = none) : Fac M L0 :=
  ⟨fun g x h => by simp [L0] at h, fun x h => by
    simp only [L0, List.mem_cons, List.not_mem_nil, or_false] at h
    rcases h with rfl | rfl
    · exact h1
    · exact h2, fun C h => by simp [L0] at h, fun p h => by simp [L0] at h, fun p h => by simp [L0] at h, fun p h => by simp [L0] at h, fun p h => by simp [L0] at h, fun p h => by simp [L0] at h, fun p h => by simp [L0] at h, fun _ _ => True.intro⟩
theorem cls0 : Cls2 M L0 md0 0 := ⟨fun f x h => by simp [L0] at h, fun h => by simp [L0] at h, fun j C f dfl h => by simp [L0] at h⟩
theorem draw_ok (FD : FunD M.K x qual params body scope [] kws fa fd) (FS : FnScope N ps scope) (hps : ps.length = 2) (hN : N.length = 4) (h1 : M.mg "int" = none) (h2 : M.mg "len" = none) (hc : all2 (ckSS L0 N scope 12 6) drawB body = true) :
    FnOk M.P M.w M.K M.mg M.base (L2.CX M.P M.w) 3 fa fd ps (spC M conDraw) := by
  refine def_ok FD FS (fun ds h P PX c => ?_) (fun X W hb st fr fn ds h Pq PX c => ?_)
  · obtain ⟨n, rfl, _⟩ := c
    rw [hps]; rfl
  · obtain ⟨n, rfl, rfl, hn, hn2, q⟩ := c
    have e : begin N [.ref 0, .int n] = [some (.ref 0), some (.int n), none, none] := by unfold begin; rw [hN]; rfl
    rw [e]
    intro w0 H0 σ w H Dn eh ex wk sk xc qq
    obtain ⟨qs, i, c, s, b1, b2, b3, b4, e1, k1⟩ := zz_open (j := 0) wk (by rw [eh]; rfl)
    obtain ⟨k', i', c', s', z1, z2, z3, z4, z5, z6, z7⟩ := draw_run md0 qs i c s n b1 b2 b3 b4 (by omega) (by omega)
    have key := blk_bx (G := ⟨W, fun c pl _ h => False⟩) (S' := fun o => o = .rt false (.int k') [some (zz' qs i' c' s')]) (evS_ok (fac0 h1 h2) (cls0 (M := M)) (Nat.zero_lt_succ 1) (Nat.le_refl 2) (fun _ => rfl) (fun _ => rfl) 12 6) hb ⟨st, fr, fn⟩ hc (fun c pl ρ h q => by cases q) (by
      show T.good (blk (evS md0 12 6) drawB [some (.ref 0), some (.int n), none, none] [some (zz' qs i c s)]) _ _
      rw [show blk (evS md0 12 6) drawB [some (.ref 0), some (.int n), none, none] [some (zz' qs i c s)] = _ from z7]
      rfl)
    refine key w0 H0 σ (w.put 0 (some (zzD qs i c s))) H Dn ?_ (ex.trans e1) k1 (sk.ext e1) (fun c pl d σ w H ρ px => px.elim) (fun o ho => ?_)
    · show w.h.set 0 _ = _
      rw [eh]; rfl
    · subst ho
      intro v w1 H1 eh1 ex1 wk1 r
      obtain ⟨e2, k2⟩ := zz_close (j := 0) wk1 (by rw [eh1]; rfl) z3 z4 z5 z6
      have hk : ∃ kn : Nat, k' = kn ∧ kn < n := ⟨k'.toNat, by omega, by omega⟩
      obtain ⟨kn, rfl, hk⟩ := hk
      refine qq (.rt false (.int kn) [some .zz]) (q kn hk) v (w1.put 0 (some .zz)) H1 ?_ (ex1.trans e2) k2 ?_
      · show w1.h.set 0 _ = _
        rw [eh1]; rfl
      · exact r
end
end Yl

set_option maxRecDepth 100000
set_option maxHeartbeats 4000000
/-! Y22: from what the head tells to what the check wants. -/
namespace Yl
open PySem PySem.Spec PyProof.Rows L2
/-! ### which facts are told -/
def faEq : He.Fa → He.Fa → Bool
  | .glo a, .glo b => decide (a = b)
  | .free a, .free b => decide (a = b)
  | .cls a, .cls b => decide (a = b)
  | .noat a x, .noat b y => decide (a = b) && decide (x = y)
  | .exc a, .exc b => decide (a = b)
  | .exm a x u, .exm b y v => decide (a = b) && (decide (x = y) && (u == v))
  | .keep a, .keep b => decide (a = b)
  | .str a x, .str b y => decide (a = b) && decide (x = y)
  | .meth a x, .meth b y => decide (a = b) && decide (x = y)
  | .mkr a, .mkr b => decide (a = b)
  | _, _ => false
theorem faEq_ok {a b : He.Fa} (h : faEq a b = true) : a = b := by
  cases a <;> cases b <;> first | (cases h; done) | skip
  all_goals simp only [faEq, Bool.and_eq_true, decide_eq_true_eq, beq_iff_eq] at h
  all_goals first | (obtain ⟨rfl, rfl, rfl⟩ := h; rfl) | (obtain ⟨rfl, rfl⟩ := h; rfl) | (subst h; rfl)
def faHas (fa : List He.Fa) (f : He.Fa) : Bool := fa.any fun g => faEq f g
section
variable {fa : List He.Fa} {fn : List He.DefD} {K : PySem.W.Frag} {f : He.Fa}
theorem faHas_ok (c : He.SaysD fa fn K) (h : faHas fa f = true) : f.ok K = true := by
  obtain ⟨g, hg, e⟩ := List.any_eq_true.mp h
  rw [faEq_ok e]
  exact c.facts hg
end
/-! ### a table of the top with texts as keys -/
theorem dicW_lk {K : PySem.W.Frag} {a : Addr} {l : List (Option (Str × Int))} (h : He.dicW K a = some l) : ∃ es n c sl, K.lookup a = some ⟨.type c, none, .dict es n, sl⟩ ∧ es.toList.map He.keyOf = l := by
  unfold He.dicW at h
  split at h
  · rename_i q
    split at h
    · exact ⟨_, _, _, _, q, Option.some.inj h⟩
    · cases h
  · cases h
theorem find_none {ks : List Str} {P : Params} {name : Str} : ∀ {l : List DictEntry}, l.map He.keyOf = He.keysIn P ks → name ∉ ks → l.find? (·.key.isStr name) = none ∧ l.any (·.refKey) = false := by
  induction ks with
  | nil =>
    intro l h _
    have : l = [] := by simpa [He.keysIn] using h
    subst this
    exact ⟨rfl, rfl⟩
  | cons k ks ih =>
    intro l h hn
    cases l with
    | nil => cases h
    | cons e l =>
      have h1 : He.keyOf e :: l.map He.keyOf = some (k, PyData.keyHash P k) :: He.keysIn P ks := h
      injection h1 with h2 h3
      obtain ⟨i1, i2⟩ := ih h3 fun z => hn (List.mem_cons_of_mem _ z)
      unfold He.keyOf at h2
      split at h2
      · rename_i x t q
        have h4 := (Prod.mk.inj (Option.some.inj h2)).1
        subst h4
        refine ⟨?_, ?_⟩
        · rw [List.find?_cons, i1]
          have : e.key.isStr name = false := by
            rw [q]
            unfold Value.isStr
            have : x ≠ name := fun z => hn (by rw [z]; exact List.mem_cons_self)
            simpa using this
          rw [this]
        · rw [List.any_cons, i2]
          have : e.refKey = false := by
            unfold DictEntry.refKey
            rw [q]
          rw [this]; rfl
      · cases h2
/-- what stands in slot by slot: names of the module and their data -/
def glAll (M : Mx) : List (Option Str) → List D → Prop
  | [], _ => True
  | none :: r, ds => glAll M r ds.tail
  | some x :: r, ds => (∃ v u, M.mg x = some u ∧ RelV v u ∧ ∀ F m, Rep M F m v (ds.headD .non)) ∧ glAll M r ds.tail
theorem glAll_get {M : Mx} : ∀ {gn : List (Option Str)} {ds : List D}, glAll M gn ds → ∀ g x, gn[g]? = some (some x) → ∃ v u, M.mg x = some u ∧ RelV v u ∧ ∀ F m, Rep M F m v (ds.getD g .non)
  | [], ds, h, g, x, e => by simp at e
  | o :: r, ds, h, 0, x, e => by
    simp at e
    subst e
    have := h.1
    cases ds <;> exact this
  | o :: r, ds, h, g + 1, x, e => by
    have h2 : glAll M r ds.tail := by cases o with | none => exact h | some y => exact h.2
    have e2 : r[g]? = some (some x) := by simpa using e
    have := glAll_get h2 g x e2
    cases ds <;> exact this
/-! ### an error class with its own __init__ -/
def oexB (K : PySem.W.Frag) (C : Addr) : Bool := (match K.lookup C with
  | some ⟨.type c, _, .cls ⟨_, _, .ref C' :: bm, _, _, hd, _, _, _, _, del⟩, sl⟩ => decide (c = "type") && (decide (C' = C) && (hd && (!del && (HandSPX.refsVE bm && (match sl.toList with
    | [_, _, _, _, some (.builtin n), _] => decide (n = "ValueError.__new__")
    | _ => false)))))
  | _ => false) && (decide (PySem.W.findIn K (.ref C) "__setattr__" = some (some (.builtin "object.__setattr__"))) && (decide (PySem.W.subIn K (.ref C) (.type "BaseException") = some true) && (decide (PySem.W.typeIn K (.ref C) = some (.type "type")) && PySem.W.keepIn K (.ref C))))
theorem oexB_ok {K : PySem.W.Frag} {C : Addr} (h : oexB K C = true) : OexC K C := by
  unfold oexB at h
  simp only [Bool.and_eq_true, decide_eq_true_eq] at h
  obtain ⟨h0, h1, h2, h3, h4⟩ := h
  refine ⟨?_, h1, h2, h3, h4⟩
  split at h0
  · rename_i c dd nm bs C' bm N q hd sn sub ab col del sl lk
    simp only [Bool.and_eq_true, decide_eq_true_eq, Bool.not_eq_true'] at h0
    obtain ⟨rfl, rfl, rfl, rfl, h5, h6⟩ := h0
    split at h6
    · rename_i k0 k1 k2 k3 n k5 hs
      have := of_decide_eq_true h6
      subst this
      have hsl : sl = #[k0, k1, k2, k3, some (.builtin "ValueError.__new__"), k5] := by
        obtain ⟨l⟩ := sl
        simp only at hs
        rw [hs]
      subst hsl
      exact ⟨nm, q, N, bs, bm, sn, sub, ab, col, dd, k0, k1, k2, k3, k5, lk, h5⟩
    · cases h6
  · cases h0
section
variable {P : Program} {w : World} {K : PySem.W.Frag} {mg : Str → Option Value} {base : Heap} {f C : Addr} {fd : FuncData} {x qual g : Str} {params : Arguments} {scope : Scope} {kws : List (Str × V)} {N ps : List Str} {a b : Str} {q1 q2 q3 q4 : Pos}
/-- __init__ of it: self.g = b -/
theorem ox_init (F : FunD K x qual params [.Assign [.Attribute (.Name a q1) g q2] (.Name b q3) q4] scope [] kws f fd) (S : FnScope [a, b] [a, b] scope) (T : OexC K C) (no : PySem.W.findIn K (.ref C) g = some none)
    (a1 : (a == ("__debug__" : Str)) = false) (a2 : (a == ("__classdict__" : Str)) = false) (b1 : (b == ("__debug__" : Str)) = false) (b2 : (b == ("__classdict__" : Str)) = false) (va : scope.names.lookup a = some .local) (vb : scope.names.lookup b = some .local) :
    FnOk P w K mg base (L2.CX P w) 1 f fd [a, b] (spOx C g) := by
  refine F.ok S (fun vs H Q E h => ?_) (fun cdv A outer s H vs Q E hr h => ?_)
  · obtain ⟨x, v, rfl, _⟩ := h
    rfl
  · obtain ⟨x, v, rfl, hx, h⟩ := h
    refine ⟨_, pss_one (ps_ost (pe_var (i := 0) rfl (.inl va) a1 a2) (pe_var (i := 1) rfl (.inl vb) b1 b2) rfl), ?_⟩
    exact ⟨v, rfl, .ref x, rfl, x, C, rfl, T, no, .inl ⟨hx, fun dx hd ne => h dx hd ne⟩⟩
end
end Yl

set_option maxRecDepth 100000
set_option maxHeartbeats 4000000
/-! Y23: the check's facts all together; the law's first statement; the law. -/
namespace Yl
open PySem PySem.Spec PyProof.Rows L2
open T (good_bind)
/-! ### tables with texts as keys -/
def kdB (K : PySem.W.Frag) (a : Addr) : List (Tx × Int) → Bool
  | [] => true
  | (k, i) :: r => (match PySem.W.nsIn K a (ts k) with
    | some (some u) => He.relB (.int i) u
    | _ => false) && kdB K a r
theorem kdB_ok {K : PySem.W.Frag} {a : Addr} : ∀ {kvs : List (Tx × Int)}, kdB K a kvs = true → ∀ k i, (k, i) ∈ kvs → ∃ u, PySem.W.nsIn K a (ts k) = some (some u) ∧ RelV (.int i) u
  | [], _, k, i, h => by cases h
  | (k0, i0) :: r, h, k, i, hm => by
    unfold kdB at h
    rw [Bool.and_eq_true_iff] at h
    rcases List.mem_cons.mp hm with e | hm
    · cases e
      have h1 := h.1
      split at h1
      · rename_i u e
        exact ⟨u, e, He.relB_ok h1⟩
      · cases h1
    · exact kdB_ok h.2 k i hm
theorem lookup_mem2 {k : Tx} : ∀ {kvs : List (Tx × Int)}, (match kvs.lookup k with | some i => (k, i) ∈ kvs | none => k ∉ kvs.map (·.1))
  | [] => by simp
  | (a, b) :: r => by
    rw [List.lookup_cons]
    cases q : k == a with
    | true =>
      have := eq_of_beq q
      subst this
      exact List.mem_cons_self
    | false =>
      have ih := lookup_mem2 (k := k) (kvs := r)
      have ne : k ≠ a := fun z => by subst z; simp at q
      cases e : r.lookup k with
      | some i => rw [e] at ih; exact List.mem_cons_of_mem _ ih
      | none =>
        rw [e] at ih
        simp only [List.map_cons, List.mem_cons, not_or]
        exact ⟨ne, ih⟩
theorem rep_kdct {M : Mx} {a : Addr} {kvs : List (Tx × Int)} (hd : He.dicW M.K a = some (He.keysIn M.w.params (kvs.map fun p => ts p.1))) (hv : kdB M.K a kvs = true) (F : Hp) (m : List Addr) : Rep M F m (.ref a) (.kdct kvs) := by
  refine .kdct (He.dicW_ok hd) fun z => ?_
  have key := lookup_mem2 (k := z) (kvs := kvs)
  cases e : kvs.lookup z with
  | some i =>
    rw [e] at key
    obtain ⟨u, h1, h2⟩ := kdB_ok hv z i key
    exact ⟨_, h1, u, rfl, h2⟩
  | none =>
    rw [e] at key
    refine ⟨none, ?_, rfl⟩
    obtain ⟨es, n, c, sl, lk, hm⟩ := dicW_lk hd
    have hn : ts z ∉ kvs.map fun p => ts p.1 := fun q => by
      obtain ⟨p, hp, ep⟩ := List.mem_map.mp q
      exact key (List.mem_map.mpr ⟨p, hp, ts_inj ep⟩)
    obtain ⟨f1, f2⟩ := find_none hm hn
    unfold PySem.W.nsIn
    rw [lk]
    show (match es.toList.find? (·.key.isStr (ts z)) with | some e => some (some e.val) | none => if es.toList.any (·.refKey) then none else some none) = _
    rw [f1, f2]; rfl
/-! ### the facts -/
def facB (fa : List He.Fa) (cn : Nat → Str) (L : Lw) : Bool :=
  L.free.all (fun x => faHas fa (.free x)) && (L.plain.all (fun C => faHas fa (.cls (cn C))) && (L.noat.all (fun p => faHas fa (.noat (cn p.1) (ts p.2))) && (L.cnm.all (fun p => decide (cn p.1 = p.2) && faHas fa (.glo p.2)) && (L.exc0.all (fun C => faHas fa (.exc (cn C))) && L.exm.all (fun p => faHas fa (.exm (cn p.1) (cn p.2.1) p.2.2))))))
section
variable {fa : List He.Fa} {fn : List He.DefD} {K : PySem.W.Frag} {h : Heap} {mg : Str → Option Value} {P : Program} {w : World} {base : Heap} {L : Lw} {cn : Nat → Str}
abbrev mxOf (P : Program) (w : World) (K : PySem.W.Frag) (mg : Str → Option Value) (base : Heap) (cn : Nat → Str) : Mx := ⟨P, w, K, mg, base, fun c => He.ga K (cn c)⟩
theorem fac_of (KX : K.In h) (G : h.Ns mainGlobals mg) (c : He.SaysD fa fn K) (hB : facB fa cn L = true) (hgl : glAll (mxOf P w K mg base cn) L.gnm L.pg.gls)
    (h1 : ∀ p, p ∈ L.exc1 → ∀ x, (p.1, x) ∈ L.cnm → ExcI (mxOf P w K mg base cn) p.1 x (ts p.2) 1) (h2 : ∀ p, p ∈ L.xf → XfC K (He.ga K (cn p.1)) ∧ PySem.W.findIn K (.ref (He.ga K (cn p.1))) (ts p.2) = some none) : Fac (mxOf P w K mg base cn) L := by
  simp only [facB, Bool.and_eq_true, List.all_eq_true, decide_eq_true_eq] at hB
  obtain ⟨b1, b2, b3, b4, b5, b6⟩ := hB
  have cnm : ∀ p, p ∈ L.cnm → mg p.2 = some (.ref (He.ga K (cn p.1))) := fun p hp => by
    obtain ⟨e1, e2⟩ := b4 p hp
    rw [e1]
    exact He.glo_ok KX G (faHas_ok c e2)
  refine ⟨glAll_get hgl, fun x hx => He.free_ok KX G (faHas_ok c (b1 x hx)), fun C hC => He.cls_ok (faHas_ok c (b2 C hC)), fun p hp => He.noat_ok (faHas_ok c (b3 p hp)), cnm, fun C hC x hx => ?_, h1, fun p hp => He.exm_ok (faHas_ok c (b6 p hp)), h2, fun _ _ => True.intro⟩
  obtain ⟨e1, e2, e3, e4⟩ := He.exc_ok (faHas_ok c (b5 C hC))
  exact ⟨cnm _ hx, e1, e2, e3, e4⟩
end
/-! ### a def of the module, from the head's facts -/
theorem bind1 {K : PySem.W.Frag} {x qual : Str} {params : Arguments} {body : List Stmt} {scope : Scope} {kws : List (Str × V)} {f : Addr} {fd : FuncData} {ps : List Str} (F : FunD K x qual params body scope [] kws f fd)
    (h : ∀ (kV doc pm : Value) (an : Option Addr) (cdv ct : Value) (us : List Value), us.length = ps.length → bindArgs (PySem.W.fnOf x qual params body scope .none kV doc pm an cdv ct) ⟨us, []⟩ = pure (ps.zip us)) : Binds K fd ps [] := F.bindsN h
/-! ### the law's first statement -/
def spBegin (K : PySem.W.Frag) : Sp := fun vs H Q _ => ∃ (a : Addr) (ns : List Int), vs = [.ref a] ∧ SqL K H a (ns.map V.int) ∧ ∀ q p, H q = none → H p = none → p ≠ q → Q (.ref p) (upd (upd H q (.lst (ns.map V.int))) p (.lst [.ref q, .int 0, .int 0, .int 7]))
section
variable {P : Program} {w : World} {K : PySem.W.Frag} {mg : Str → Option Value} {base : Heap} {f : Addr} {fd : FuncData} {x qual : Str} {params : Arguments} {scope : Scope} {kws : List (Str × V)} {s : Str} {q1 q2 q3 q4 q5 q6 q7 q8 : Pos} {i1 i2 i3 : Nat}
theorem begin_ok0 (F : FunD K x qual params [.Return (some (.List [.Call (.Name "list" q1) [.Name s q2] [] q3, .Constant (.int 0) i1 q4, .Constant (.int 0) i2 q5, .Constant (.int 7) i3 q6] q7)) q8] scope [] kws f fd) (S : FnScope [s] [s] scope) (hl : mg "list" = none) (gl : scope.names.lookup ("list" : Str) = some .globalImplicit)
    (vs : scope.names.lookup s = some .local) (a1 : (s == ("__debug__" : Str)) = false) (a2 : (s == ("__classdict__" : Str)) = false) : FnOk P w K mg base (L2.CX P w) 1 f fd [s] (spBegin K) := by
  refine F.ok S (fun vs H Q E h => ?_) (fun cdv A outer s0 H vs' Q E hr h => ?_)
  · obtain ⟨a, ns, rfl, _⟩ := h
    rfl
  · obtain ⟨a, ns, rfl, hs, h⟩ := h
    refine ⟨_, pss_one (ps_ret (pe_lst (pa_cons (pe_callTy call_list_of gl hl (by decide +kernel) (pa_cons (pe_var (i := 0) rfl (.inl vs) a1 a2) pa_nil)) (pa_cons pe_int (pa_cons pe_int (pa_cons pe_int pa_nil)))))), ?_⟩
    refine ⟨_, rfl, a, ns.map V.int, rfl, .inl hs, fun q hq => ?_⟩
    refine ⟨show 4 ≤ sizeLine by (rw [sizeLine_eq]; decide), fun p hp => ?_⟩
    have hne : p ≠ q := fun z => by rw [z, upd_same] at hp; cases hp
    exact h q p hq (by rw [upd_ne hne] at hp; exact hp) hne
end
/-! ### the law -/
def lawEnv (ns dr : Nat) : Env := (List.replicate ns none).set dr (some (.ref 0))
def isRtT : Out → Bool
  | .rt false (.bl true) _ => true
  | _ => false
def lawRun (pg : Pg) (m n fuel k f dr : Nat) : T Out := match pg.fns.getD f none with
  | some F => (blk (evS ⟨fun j => pg.mks.getD j (0, 0, []), run pg m n fuel k, fun g => pg.gls.getD g .non, fuel⟩ m n) F.body (lawEnv F.ns dr) [some .zz]).calm
  | none => .no
def spLaw (K : PySem.W.Frag) : Sp := fun vs H Q _ => ∃ (a : Addr) (ns : List Int), vs = [.ref a] ∧ SqL K H a (ns.map V.int) ∧ ∀ H', Q (.bl true) H'
section
variable {M : Mx} {L : Lw} {m n fuel j : Nat} {N : List Str} {scope : Scope} {rest : List Stmt} {x qual : Str} {params : Arguments} {kws : List (Str × V)} {fa fb : Addr} {fd fdb : FuncData} {s d g sb : Str} {p1 p2 p3 p4 p5 : Pos} {F : Fn} {f dr : Nat}
theorem law_ok0 (A : Cls2 M L (mdAt L m n fuel j) (2 * j + 3)) (P : Fac M L) (FD : FunD M.K x qual params (.Assign [.Name d p1] (.Call (.Name g p2) [.Name s p3] [] p4) p5 :: rest) scope [] kws fa fd) (FS : FnScope N [s] scope)
    (GB : FnOk M.P M.w M.K M.mg M.base (L2.CX M.P M.w) 1 fb fdb [sb] (spBegin M.K)) (gB : M.mg g = some (.ref fb)) (kB : PySem.W.keepIn M.K (.ref fb) = true) (bB : Binds M.K fdb [sb] [])
    (hf : L.pg.fns[f]? = some (some F)) (hns : F.ns = N.length) (hd : N[dr]? = some d) (hs0 : N[0]? = some s) (hdr : dr ≠ 0)
    (gl : scope.names.lookup g = some .globalImplicit) (g1 : (g == ("__debug__" : Str)) = false) (vs : scope.names.lookup s = some .local) (s1 : (s == ("__debug__" : Str)) = false) (s2 : (s == ("__classdict__" : Str)) = false)
    (vd : kindS scope d = true) (hc : all2 (ckSS L N scope m n) F.body rest = true) (run : (lawRun L.pg m n fuel j f dr).goodB isRtT = true) :
    FnOk M.P M.w M.K M.mg M.base (L2.CX M.P M.w) (2 * (j + 1) + 3) fa fd [s] (spLaw M.K) := by
  refine FD.ok FS (fun vs H Q E h => ?_) (fun cdv A' outer s0 H vs' Q E hr h => ?_)
  · obtain ⟨a, ns, rfl, _⟩ := h
    rfl
  · obtain ⟨a, ns, rfl, hs, hQ⟩ := h
    have hb0 := bx_of (M := M) (E := E) (s := s0) (H := H) (outer := outer) (cdv := cdv) (k := 2 * j + 4) FS hr
    have fx0 : Frx (cxOf (L2.CX M.P M.w) M.P M.w M.K M.mg M.base N qual scope fa cdv A' outer s0 H E) := ⟨rfl, rfl, fun _ => rfl⟩
    have lf := loc_hf hb0.toBw (kindS_ok fx0.fn vd)
    have hlen : 0 < N.length := (List.getElem?_eq_some_iff.mp hs0).1
    refine ⟨_, pss_cons (ps_set (i := dr) FS.nd hd lf.1 (pe_callS GB (hr.mono (by omega)) gl gB kB bB (fun σ => passAt hb0.tk σ) (pa_cons (pe_var (i := 0) hs0 (.inl vs) s1 s2) pa_nil) g1) rfl lf.2) pb_rd, ?_⟩
    refine ⟨_, rfl, a, ns, rfl, hs, fun q p hq hp hne => ?_⟩
    show rdB _ rest _ ((start N [V.ref a]).set dr (some (.ref p))) _
    let H1 : Hp := upd (upd H q (.lst (ns.map V.int))) p (.lst [.ref q, .int 0, .int 0, .int 7])
    let w1 : Wd := ⟨fun b => if b = q then some (.lst (ns.map V.int)) else none, [p], [some .zz]⟩
    have hq1 : H1 q = some (.lst (ns.map V.int)) := by show upd _ p _ q = _; rw [upd_ne (Ne.symm hne), upd_same]
    have k1 : WOk M w1 H1 := by
      refine ⟨fun b o e => ?_, rfl, fun i d' e => ?_, fun i l b x y => ?_⟩
      · have e : (if b = q then some (HO.lst (ns.map V.int)) else none) = some o := e
        split at e
        · rename_i hb
          cases e
          rw [hb]
          exact .of hq1
        · cases e
      · cases i with
        | zero =>
          have e : some (some D.zz) = some (some d') := e
          cases e
          exact ⟨p, .lst [.ref q, .int 0, .int 0, .int 7], rfl, if_neg hne, upd_same, q, 0, 0, 7, ns, rfl, if_pos rfl, by decide, by decide, by decide, by decide⟩
        | succ i =>
          have e : ([] : Hc)[i]? = some (some d') := e
          simp at e
      · have z : ∀ {i : Nat} {b : Addr}, Live w1 i b → i = 0 := fun {i b} l => by
          cases i with
          | zero => rfl
          | succ i =>
            obtain ⟨⟨d', h⟩, _⟩ := l
            have h : ([] : Hc)[i]? = some (some d') := h
            simp at h
        rw [z x, z y]
    have s1' : SOk M w1 ((start N [V.ref a]).set dr (some (.ref p))) (lawEnv F.ns dr) := by
      refine ⟨by simp [lawEnv, hns, L2.start]; omega, fun i d' e => ?_⟩
      unfold lawEnv at e
      by_cases hi : dr = i
      · subst hi
        have hl : dr < N.length := (List.getElem?_eq_some_iff.mp hd).1
        rw [List.getElem?_set_self (by simpa [hns] using hl)] at e
        cases e
        exact ⟨.ref p, List.getElem?_set_self (by simp [L2.start]; omega), .ref rfl⟩
      · rw [List.getElem?_set_ne hi, List.getElem?_replicate] at e
        split at e <;> cases e
    have run2 : (lawRun L.pg m n fuel j f dr).good (fun o => isRtT o = true) (fun _ _ _ => False) := T.good_of run
    unfold lawRun at run2
    rw [List.getD_eq_getElem?_getD, hf] at run2
    have key := blk_bx (G := ⟨_, fun _ _ _ _ => False⟩) (S' := fun o => isRtT o = true) (evS_ok P A (Nat.le_refl _) (by omega) (fun _ => rfl) (fun _ => rfl) m n) (k := 2 * j + 4) hb0 fx0 hc (fun c pl ρ h q => by cases q) (calm_good run2)
    refine key w1 H1 _ w1 H1 _ rfl Ext.refl k1 s1' (fun c pl d σ w H ρ px => px.elim) (fun o ho => ?_)
    cases o with
    | rt fl d2 h2 =>
      cases fl <;> cases d2 <;> first | (cases ho; done) | skip
      rename_i b
      cases b <;> first | (cases ho; done) | skip
      intro v w2 H2 _ _ _ r
      have r : Rep M w2.F w2.m v (.bl true) := r
      rw [r.bl_inv]
      exact hQ H2
    | _ => cases ho
end
end Yl
namespace Yl
open PySem PySem.Spec PyProof.Rows L2
/-! ### lists of what is shown def by def -/
def fnAll (M : Mx) (L : Lw) (m n : Nat) : Nat → List (Option Str) → Prop
  | _, [] => True
  | i, none :: r => fnAll M L m n (i + 1) r
  | i, some x :: r => FnS M L m n i x ∧ fnAll M L m n (i + 1) r
theorem fnAll_get {M : Mx} {L : Lw} {m n : Nat} : ∀ {l : List (Option Str)} {i : Nat}, fnAll M L m n i l → ∀ f x, l[f]? = some (some x) → FnS M L m n (i + f) x
  | [], i, h, f, x, e => by simp at e
  | o :: r, i, h, 0, x, e => by
    simp at e
    subst e
    exact h.1
  | o :: r, i, h, f + 1, x, e => by
    have h2 : fnAll M L m n (i + 1) r := by cases o with | none => exact h | some y => exact h.2
    have := fnAll_get h2 f x (by simpa using e)
    rw [Nat.add_assoc, Nat.add_comm 1 f] at this
    exact this
def mkAll (M : Mx) (L : Lw) (m n : Nat) : List (Nat × Nat × List D) → Prop
  | [] => True
  | p :: r => ((L.cnm.any fun q => Nat.beq q.1 p.1) = true → MkS M L m n p.1 p.2.1 p.2.2) ∧ mkAll M L m n r
theorem mkAll_get {M : Mx} {L : Lw} {m n : Nat} : ∀ {l : List (Nat × Nat × List D)}, mkAll M L m n l → ∀ (j C f : Nat) (dfl : List D), l[j]? = some (C, f, dfl) → ∀ x, (C, x) ∈ L.cnm → MkS M L m n C f dfl
  | [], h, j, C, f, dfl, e, x, hx => by simp at e
  | p :: r, h, 0, C, f, dfl, e, x, hx => by
    simp at e
    subst e
    exact h.1 (List.any_eq_true.mpr ⟨_, hx, Nat.beq_refl C⟩)
  | p :: r, h, j + 1, C, f, dfl, e, x, hx => mkAll_get h.2 j C f dfl (by simpa using e) x hx
theorem rep_lit {M : Mx} {F : Hp} {m : List Addr} {z : Str} {x : Tx} (h : z.cps.toList = x) : Rep M F m (.str z) (.str x) := by
  subst h
  have := Rep.str (M := M) (F := F) (m := m) z.cps.toList
  rw [ts_of] at this
  exact this
/-- a def, from the head's facts -/
theorem fnS_of {fa : List He.Fa} {fn : List He.DefD} {K : PySem.W.Frag} {h : Heap} {mg : Str → Option Value} {P : Program} {w : World} {base : Heap} {cn : Nat → Str} {L : Lw} {m n f : Nat} {N ps : List Str} {F : Fn} {x : Str} (KX : K.In h) (G : h.Ns mainGlobals mg) (c : He.SaysD fa fn K) {d : He.DefD} (i : Nat)
    (hd : fn[i]? = some d) (ha : d.at_ = (x, none)) (hx : d.name = x) (h0 : d.dfl = []) (hg : faHas fa (.glo x) = true) (S : FnScope N ps d.scope)
    (hb : ∀ (kV doc pm : Value) (an : Option Addr) (cdv ct : Value) (us : List Value), us.length = ps.length → bindArgs (PySem.W.fnOf d.name d.qual d.params d.body d.scope .none kV doc pm an cdv ct) ⟨us, []⟩ = pure (ps.zip us))
    (hf : L.pg.fns[f]? = some (some F)) (h1 : F.ns = N.length) (h2 : F.ps = ps.length) (hc : all2 (ckSS L N d.scope m n) F.body d.body = true) : FnS (mxOf P w K mg base cn) L m n f x := by
  obtain ⟨fd, FD⟩ := c.def_ i hd
  have e : d.dvs K = [] := by unfold He.DefD.dvs; rw [h0]; rfl
  rw [e] at FD
  have g := He.glo_ok KX G (faHas_ok c hg)
  have ea : He.fAd K d.at_ = He.ga K x := by rw [ha]; rfl
  rw [ea] at FD
  refine ⟨He.ga K x, fd, d.qual, d.params, d.body, d.scope, d.kws K, N, ps, F, ?_, S, g, FD.bindsN hb, hf, h1, h2, hc⟩
  rw [← hx]
  rw [← hx] at FD
  exact FD
end Yl
namespace Yl
open PySem PySem.Spec PyProof.Rows L2
theorem cx_no {P : Program} {w : World} {st : List PySem.Env} {H : Hp} {s s' : Shared} {e : Value} (h : L2.CX P w st H s (fun _ _ _ => False) e s') : False := by
  obtain ⟨_, _, _, _, _, _, _, _, _, _, _, _, z⟩ := h
  exact z
theorem fd_eq {K : PySem.W.Frag} {x qual : Str} {params : Arguments} {body : List Stmt} {scope : Scope} {dvs dvs' : List V} {kws kws' : List (Str × V)} {f : Addr} {fd fd' : FuncData} (a : FunD K x qual params body scope dvs kws f fd) (b : FunD K x qual params body scope dvs' kws' f fd') : fd = fd' := by
  obtain ⟨oc, od, dV, kV, doc, pm, an, cdv, ct, osl, rfl, lk, _⟩ := a.ex
  obtain ⟨oc2, od2, dV2, kV2, doc2, pm2, an2, cdv2, ct2, osl2, rfl, lk2, _⟩ := b.ex
  rw [lk] at lk2
  injection lk2 with e
  injection e with _ _ e _
  injection e with e
end Yl

set_option maxRecDepth 100000
/-! Ysp: a run, draw by draw. -/
namespace Yl.T
def drN {α : Type} : T α → Option Nat
  | dr n _ => some n
  | _ => none
def at_ {α : Type} : T α → Nat → T α
  | dr _ f, i => f i
  | t, _ => t
theorem goodB_at {α : Type} {P : α → Bool} {t : T α} {n : Nat} (h : t.drN = some n) (k : ∀ i, i < n → (t.at_ i).goodB P = true) : t.goodB P = true := by
  cases t with
  | dr m f =>
    cases h
    exact List.all_eq_true.mpr fun i hi => k i (List.mem_range.mp hi)
  | _ => cases h
end Yl.T

namespace Yl
/-- is_word: 0 thing 1 letter -/
def F_is_word : Fn := ⟨1, 2,
  [(.ret (.and [(.bi .isi [(.var 0), (.ty 3)]), (.bi .all [(.lc [1] false .str [(.var 0)] [] (.op2 .isin (.var 1) (.gl 0)))])]))]⟩
/-- are_letters: 0 thing 1 one 2 other -/
def F_are_letters : Fn := ⟨1, 3,
  [(.ite (.or [(.not (.call 0 [(.var 0)])), (.not (.var 0))]) [(.ret (.cst (.bl false)))] []),
   (.ret (.bi .all [(.lc [1, 2] true .zip [(.var 0), (.slice (.var 0) (some (.cst (.int 1))) none)] [] (.op2 .lt (.var 1) (.var 2)))]))]⟩
/-- are_barred: 0 thing 1 word -/
def F_are_barred : Fn := ⟨1, 2,
  [(.ite (.or [(.not (.bi .isi [(.var 0), (.ty 4)])), (.not (.chain .le .le (.cst (.int 1)) (.bi .len [(.var 0)]) (.cst (.int 6))))]) [(.ret (.cst (.bl false)))] []),
   (.ite (.not (.bi .all [(.lc [1] false .tup [(.var 0)] [] (.and [(.call 0 [(.var 1)]), (.chain .le .le (.cst (.int 1)) (.bi .len [(.var 1)]) (.cst (.int 4)))]))])) [(.ret (.cst (.bl false)))] []),
   (.ret (.op2 .eq (.bi .len [(.dc false 1 .tup (.var 0) (.var 1) (.cst (.bl true)))]) (.bi .len [(.var 0)])))]⟩
/-- are_passes: 0 thing -/
def F_are_passes : Fn := ⟨1, 1,
  [(.ret (.and [(.bi .isi [(.var 0), (.ty 2)]), (.not (.bi .isi [(.var 0), (.ty 1)])), (.chain .le .le (.cst (.int 0)) (.var 0) (.cst (.int 2)))]))]⟩
/-- Lot.__init__: 0 self 1 barred 2 first 3 second 4 rule 5 passes -/
def F_Lot_init : Fn := ⟨6, 6,
  [(.ite (.or [(.not (.call 2 [(.var 1)])), (.not (.call 1 [(.var 2)])), (.not (.call 1 [(.var 3)]))]) [(.raise 1 none [])] []),
   (.ite (.or [(.not (.bi .isi [(.var 4), (.ty 3)])), (.op2 .nin (.var 4) (.gl 1)), (.not (.call 3 [(.var 5)]))]) [(.raise 1 none [])] []),
   (.setFld 10 (.var 0) [98, 97, 114, 114, 101, 100] (.var 1)),
   (.setFld 10 (.var 0) [102, 105, 114, 115, 116] (.var 2)),
   (.setFld 10 (.var 0) [115, 101, 99, 111, 110, 100] (.var 3)),
   (.setFld 10 (.var 0) [114, 117, 108, 101] (.var 4)),
   (.setFld 10 (.var 0) [112, 97, 115, 115, 101, 115] (.var 5))]⟩
/-- Lot.__eq__: 0 self 1 other -/
def F_Lot_eq : Fn := ⟨2, 2,
  [(.ite (.or [(.not (.bi .isi [(.var 1), (.gl 14)])), (.op2 .ne (.bi .sorted [(.fld (.var 0) [98, 97, 114, 114, 101, 100])]) (.bi .sorted [(.fld (.var 1) [98, 97, 114, 114, 101, 100])]))]) [(.ret (.cst (.bl false)))] []),
   (.ret (.op2 .eq (.call 6 [(.var 0)]) (.call 6 [(.var 1)])))]⟩
/-- others_of: 0 lot -/
def F_others_of : Fn := ⟨1, 1,
  [(.ret (.tup [(.fld (.var 0) [102, 105, 114, 115, 116]), (.fld (.var 0) [115, 101, 99, 111, 110, 100]), (.fld (.var 0) [114, 117, 108, 101]), (.fld (.var 0) [112, 97, 115, 115, 101, 115])]))]⟩
/-- is_ending: 0 lot 1 word 2 barred -/
def F_is_ending : Fn := ⟨2, 3,
  [(.ret (.bi .any [(.lc [2] false .tup [(.fld (.var 0) [98, 97, 114, 114, 101, 100])] [] (.me .ends (.var 1) [(.var 2)]))]))]⟩
/-- cut_tail: 0 lot 1 word 2 at 3 barred -/
def F_cut_tail : Fn := ⟨2, 4,
  [(.for_ [2] false .rng [(.op2 .add (.bi .len [(.var 1)]) (.cst (.int 1)))] [(.ite (.bi .any [(.lc [3] false .tup [(.fld (.var 0) [98, 97, 114, 114, 101, 100])] [] (.and [(.me .starts (.var 3) [(.slice (.var 1) (some (.var 2)) none)]), (.op2 .ne (.var 3) (.slice (.var 1) (some (.var 2)) none))]))]) [(.ret (.slice (.var 1) (some (.var 2)) none))] [])]),
   (.ret (.cst (.str [])))]⟩
/-- step: 0 lot 1 here 2 letter -/
def F_step : Fn := ⟨3, 3,
  [(.ret (.ite (.call 7 [(.var 0), (.op2 .add (.var 1) (.var 2))]) (.cst .non) (.call 8 [(.var 0), (.op2 .add (.var 1) (.var 2))])))]⟩
/-- tail_or_none: 0 lot 1 word 2 here 3 letter -/
def F_tail_or_none : Fn := ⟨2, 4,
  [(.set 2 (.cst (.str []))),
   (.for_ [3] false .str [(.var 1)] [(.set 2 (.call 9 [(.var 0), (.var 2), (.var 3)])),
   (.ite (.op2 .isN (.var 2) (.cst .non)) [(.ret (.cst .non))] [])]),
   (.ret (.var 2))]⟩
/-- tail: 0 lot 1 word 2 found -/
def F_tail : Fn := ⟨2, 3,
  [(.ite (.not (.call 0 [(.var 1)])) [(.raise 2 none [])] []),
   (.set 2 (.call 10 [(.var 0), (.var 1)])),
   (.ite (.op2 .isN (.var 2) (.cst .non)) [(.raise 3 none [])] []),
   (.ret (.var 2))]⟩
/-- by_size: 0 words 1 size 2 word -/
def F_by_size : Fn := ⟨1, 3,
  [(.ret (.lc [1, 2] true .lst [(.bi .sorted [(.lc [2] false .lst [(.var 0)] [] (.tup [(.bi .len [(.var 2)]), (.var 2)]))])] [] (.var 2)))]⟩
/-- all_tails: 0 lot 1 found 2 waiting 3 at 4 here 5 letter 6 after -/
def F_all_tails : Fn := ⟨1, 7,
  [(.set 1 (.new (.dct [(.cst (.str []))] [(.cst (.str []))]))),
   (.set 2 (.new (.lst [(.cst (.str []))]))),
   (.set 3 (.cst (.int 0))),
   (.while_ (.op2 .lt (.var 3) (.bi .len [(.var 2)])) [(.set 4 (.op2 .ix (.var 2) (.var 3))),
   (.aug 3 .add (.cst (.int 1))),
   (.for_ [5] false .str [(.gl 0)] [(.set 6 (.call 9 [(.var 0), (.var 4), (.var 5)])),
   (.ite (.and [(.op2 .notN (.var 6) (.cst .non)), (.op2 .nin (.var 6) (.var 1))]) [(.setIx (.var 1) (.var 6) (.op2 .add (.op2 .ix (.var 1) (.var 4)) (.var 5))),
   (.ex (.me .app (.var 2) [(.var 6)]))] [])])]),
   (.ret (.take 1))]⟩
/-- tails: 0 lot -/
def F_tails : Fn := ⟨1, 1,
  [(.ret (.call 12 [(.call 13 [(.var 0)])]))]⟩
/-- stand_of: 0 lot 1 word 2 player -/
def F_stand_of : Fn := ⟨3, 3,
  [(.ret (.tup [(.call 11 [(.var 0), (.var 1)]), (.var 2), (.fld (.var 0) [112, 97, 115, 115, 101, 115]), (.fld (.var 0) [112, 97, 115, 115, 101, 115])]))]⟩
/-- stands: 0 lot 1 counts 2 found 3 here 4 player 5 own 6 other -/
def F_stands : Fn := ⟨1, 7,
  [(.set 1 (.lrange (.op2 .add (.fld (.var 0) [112, 97, 115, 115, 101, 115]) (.cst (.int 1))))),
   (.set 2 (.lst [])),
   (.for_ [3] false .dct [(.call 13 [(.var 0)])] [(.set 2 (.op2 .add (.var 2) (.lc3 4 5 6 (.tup [(.cst (.int 0)), (.cst (.int 1))]) (.var 1) (.var 1) (.tup [(.var 3), (.var 4), (.var 5), (.var 6)]))))]),
   (.ret (.bi .sorted [(.var 2)]))]⟩
/-- _law_begin: 0 _law_script -/
def F_law_begin : Fn := ⟨1, 1,
  [(.ret (.lst [(.bi .list [(.var 0)]), (.cst (.int 0)), (.cst (.int 0)), (.cst (.int 7))]))]⟩
/-- _law_letters: 0 _law_draws 1 _law_found 2 _law_letter -/
def F_law_letters : Fn := ⟨1, 3,
  [(.set 1 (.me .join (.cst (.str [])) [(.lc [2] false .str [(.cst (.str [97, 98, 99, 100]))] [(.op2 .gt (.draw 0 (.cst (.int 3))) (.cst (.int 0)))] (.var 2))])),
   (.ret (.or [(.var 1), (.cst (.str [97, 98]))]))]⟩
/-- _law_word: 0 _law_draws 1 _law_least 2 _law_most 3 _law_size 4 _law_k -/
def F_law_word : Fn := ⟨3, 5,
  [(.set 3 (.op2 .add (.var 1) (.draw 0 (.op2 .sub (.op2 .add (.var 2) (.cst (.int 1))) (.var 1))))),
   (.ret (.me .join (.cst (.str [])) [(.lc [4] false .rng [(.var 3)] [] (.op2 .ix (.cst (.str [97, 98, 99, 100])) (.draw 0 (.op2 .add (.cst (.int 3)) (.draw 0 (.cst (.int 2)))))))]))]⟩
/-- _law_barred: 0 _law_draws 1 _law_many 2 _law_found 3 _law_k 4 _law_word_here -/
def F_law_barred : Fn := ⟨2, 5,
  [(.set 2 (.new (.lst []))),
   (.for_ [3] false .rng [(.var 1)] [(.set 4 (.callR 19 [true, false, false] [(.var 0), (.op2 .add (.cst (.int 1)) (.bi .int [(.op2 .gt (.draw 0 (.cst (.int 4))) (.cst (.int 0)))])), (.cst (.int 4))])),
   (.ite (.op2 .nin (.var 4) (.var 2)) [(.ex (.me .app (.var 2) [(.var 4)]))] [])]),
   (.ret (.bi .tuple [(.var 2)]))]⟩
/-- _law_drawn: 0 _law_draws 1 _law_barred_here 2 _law_first 3 _law_second 4 _law_rule -/
def F_law_drawn : Fn := ⟨1, 5,
  [(.set 1 (.callR 20 [true, false] [(.var 0), (.op2 .add (.cst (.int 1)) (.draw 0 (.cst (.int 6))))])),
   (.set 2 (.callR 18 [true] [(.var 0)])),
   (.set 3 (.op2 .ix (.lst [(.var 2), (.callR 18 [true] [(.var 0)])]) (.draw 0 (.cst (.int 2))))),
   (.set 4 (.op2 .ix (.lst [(.cst (.str [108, 111, 115, 101, 115])), (.cst (.str [119, 105, 110, 115]))]) (.draw 0 (.cst (.int 2))))),
   (.ret (.lst [(.var 1), (.var 2), (.var 3), (.var 4), (.op2 .mul (.draw 0 (.cst (.int 3))) (.draw 0 (.cst (.int 2))))]))]⟩
/-- _law_make: 0 _law_parts -/
def F_law_make : Fn := ⟨1, 1,
  [(.ret (.mk 0 [(.op2 .ix (.var 0) (.cst (.int 0))), (.op2 .ix (.var 0) (.cst (.int 1))), (.op2 .ix (.var 0) (.cst (.int 2))), (.op2 .ix (.var 0) (.cst (.int 3))), (.op2 .ix (.var 0) (.cst (.int 4)))]))]⟩
/-- _law_ends: 0 _law_parts 1 _law_word_here 2 _law_barred_here -/
def F_law_ends : Fn := ⟨2, 3,
  [(.ret (.op2 .gt (.bi .len [(.lc [2] false .tup [(.op2 .ix (.var 0) (.cst (.int 0)))] [(.op2 .eq (.slice (.var 1) (some (.bi .max [(.cst (.int 0)), (.op2 .sub (.bi .len [(.var 1)]) (.bi .len [(.var 2)]))])) none) (.var 2))] (.var 2))]) (.cst (.int 0))))]⟩
/-- _law_done: 0 _law_parts 1 _law_word_here 2 _law_k -/
def F_law_done : Fn := ⟨2, 3,
  [(.ret (.op2 .gt (.bi .len [(.lc [2] false .rng [(.op2 .add (.bi .len [(.var 1)]) (.cst (.int 1)))] [(.call 23 [(.var 0), (.slice (.var 1) none (some (.var 2)))])] (.var 2))]) (.cst (.int 0))))]⟩
/-- _law_tail: 0 _law_parts 1 _law_word_here 2 _law_size 3 _law_end 4 _law_barred_here -/
def F_law_tail : Fn := ⟨2, 5,
  [(.for_ [2] false .rng [(.bi .min [(.bi .len [(.var 1)]), (.cst (.int 3))]), (.cst (.int 0)), (.cst (.int (-1)))] [(.set 3 (.slice (.var 1) (some (.op2 .sub (.bi .len [(.var 1)]) (.var 2))) none)),
   (.ite (.op2 .gt (.bi .len [(.lc [4] false .tup [(.op2 .ix (.var 0) (.cst (.int 0)))] [(.and [(.op2 .eq (.slice (.var 4) none (some (.var 2))) (.var 3)), (.op2 .gt (.bi .len [(.var 4)]) (.var 2))])] (.var 4))]) (.cst (.int 0))) [(.ret (.var 3))] [])]),
   (.ret (.cst (.str [])))]⟩
/-- _law_tails: 0 _law_parts 1 _law_found 2 _law_at 3 _law_letter 4 _law_word_here -/
def F_law_tails : Fn := ⟨1, 5,
  [(.set 1 (.new (.lst [(.cst (.str []))]))),
   (.set 2 (.cst (.int 0))),
   (.while_ (.op2 .lt (.var 2) (.bi .len [(.var 1)])) [(.for_ [3] false .str [(.cst (.str [97, 98, 99, 100]))] [(.set 4 (.op2 .add (.op2 .ix (.var 1) (.var 2)) (.var 3))),
   (.ite (.and [(.not (.call 23 [(.var 0), (.var 4)])), (.op2 .nin (.call 25 [(.var 0), (.var 4)]) (.var 1))]) [(.ex (.me .app (.var 1) [(.call 25 [(.var 0), (.var 4)])]))] [])]),
   (.set 2 (.op2 .add (.var 2) (.cst (.int 1))))]),
   (.ret (.take 1))]⟩
/-- _law_stands: 0 _law_parts 1 _law_found 2 _law_here 3 _law_own 4 _law_other -/
def F_law_stands : Fn := ⟨1, 5,
  [(.set 1 (.lst [])),
   (.for_ [2] false .lst [(.call 26 [(.var 0)])] [(.for_ [3] false .rng [(.op2 .add (.op2 .ix (.var 0) (.cst (.int 4))) (.cst (.int 1)))] [(.for_ [4] false .rng [(.op2 .add (.op2 .ix (.var 0) (.cst (.int 4))) (.cst (.int 1)))] [(.set 1 (.op2 .add (.var 1) (.lst [(.tup [(.var 2), (.cst (.int 0)), (.var 3), (.var 4)]), (.tup [(.var 2), (.cst (.int 1)), (.var 3), (.var 4)])])))])])]),
   (.ret (.bi .sorted [(.var 1)]))]⟩
/-- _law_turns: 0 _law_parts 1 _law_stand 2 _law_found 3 _law_letter 4 _law_here 5 _law_player 6 _law_own 7 _law_other 8 _law_word_here -/
def F_law_turns : Fn := ⟨2, 9,
  [(.setT [4, 5, 6, 7] (.var 1)),
   (.set 2 (.new (.lst []))),
   (.for_ [3] false .str [(.op2 .ix (.var 0) (.op2 .add (.cst (.int 1)) (.var 5)))] [(.set 8 (.op2 .add (.var 4) (.var 3))),
   (.ite (.call 23 [(.var 0), (.var 8)]) [(.ex (.me .app (.var 2) [(.tup [(.var 3), (.cst .non)])]))] [(.ex (.me .app (.var 2) [(.tup [(.var 3), (.tup [(.call 25 [(.var 0), (.var 8)]), (.op2 .sub (.cst (.int 1)) (.var 5)), (.var 7), (.var 6)])])]))])]),
   (.ite (.op2 .gt (.var 6) (.cst (.int 0))) [(.ex (.me .app (.var 2) [(.tup [(.cst (.str [112, 97, 115, 115])), (.tup [(.var 4), (.op2 .sub (.cst (.int 1)) (.var 5)), (.var 7), (.op2 .sub (.var 6) (.cst (.int 1)))])])]))] []),
   (.ret (.take 2))]⟩
/-- _law_like: 0 _law_actual 1 _law_due 2 _law_k 3 _law_key -/
def F_law_like : Fn := ⟨2, 4,
  [(.ite (.bi .isi [(.var 1), (.ty 6)]) [(.ite (.or [(.not (.bi .isi [(.var 0), (.ty 6)])), (.op2 .ne (.bi .list [(.var 0)]) (.bi .list [(.var 1)]))]) [(.ret (.cst (.bl false)))] []),
   (.ret (.bi .all [(.lc [3] false .dct [(.var 1)] [] (.call 29 [(.op2 .ix (.var 0) (.var 3)), (.op2 .ix (.var 1) (.var 3))]))]))] []),
   (.ite (.op2 .isN (.var 1) (.cst .non)) [(.ret (.op2 .isN (.var 0) (.cst .non)))] []),
   (.ite (.bi .isi [(.var 1), (.ty 1)]) [(.ret (.and [(.bi .isi [(.var 0), (.ty 1)]), (.op2 .eq (.var 0) (.var 1))]))] []),
   (.ite (.bi .isi [(.var 1), (.ty 2)]) [(.ret (.and [(.bi .isi [(.var 0), (.ty 2)]), (.not (.bi .isi [(.var 0), (.ty 1)])), (.op2 .eq (.var 0) (.var 1))]))] []),
   (.ite (.bi .isi [(.var 1), (.ty 3)]) [(.ret (.and [(.bi .isi [(.var 0), (.ty 3)]), (.op2 .eq (.var 0) (.var 1))]))] []),
   (.ite (.bi .isi [(.var 1), (.ty 4)]) [(.ite (.or [(.not (.bi .isi [(.var 0), (.ty 4)])), (.op2 .ne (.bi .len [(.var 0)]) (.bi .len [(.var 1)]))]) [(.ret (.cst (.bl false)))] [])] [(.ite (.or [(.not (.bi .isi [(.var 0), (.ty 5)])), (.op2 .ne (.bi .len [(.var 0)]) (.bi .len [(.var 1)]))]) [(.ret (.cst (.bl false)))] [])]),
   (.for_ [2] false .rng [(.bi .len [(.var 1)])] [(.ite (.not (.call 29 [(.op2 .ix (.var 0) (.var 2)), (.op2 .ix (.var 1) (.var 2))])) [(.ret (.cst (.bl false)))] [])]),
   (.ret (.cst (.bl true)))]⟩
/-- _law_bad: 0 _law_parts 1 _law_told_here -/
def F_law_bad : Fn := ⟨1, 2,
  [(.set 1 (.cst (.bl false))),
   (.try_ [(.ex (.call 22 [(.var 0)]))] [(.c [(0, false), (1, true), (2, false), (3, false)] 1 (.bl true))]),
   (.ret (.var 1))]⟩
/-- _law_told: 0 _law_lot 1 _law_word_here 2 _law_told_here -/
def F_law_told : Fn := ⟨2, 3,
  [(.set 2 (.cst .non)),
   (.try_ [(.set 2 (.call 11 [(.var 0), (.var 1)]))] [(.c [(0, false), (1, false), (2, false), (3, true)] 2 (.str [100, 111, 110, 101])), (.c [(0, false), (1, false), (2, true), (3, false)] 2 (.str [98, 97, 100]))]),
   (.ret (.var 2))]⟩
/-- law: 0 _law_script 1 _law_draws 2 _law_parts 3 _law_lot 4 _law_k 5 _law_found 6 _law_turned 7 _law_rule 8 _law_odd 9 _law_word_here 10 _law_due 11 _law_at 12 _law_thing 13 _law_size -/
def F_law_k01 : Fn := ⟨1, 14,
  [(.set 2 (.callR 21 [true] [(.var 1)])),
   (.set 3 (.call 22 [(.var 2)])),
   (.for_ [4] false .rng [(.cst (.int 10))] [(.set 9 (.callR 19 [true, false, false] [(.var 1), (.cst (.int 0)), (.cst (.int 9))])),
   (.set 10 (.cst (.str [100, 111, 110, 101]))),
   (.ite (.not (.call 24 [(.var 2), (.var 9)])) [(.set 10 (.call 25 [(.var 2), (.var 9)])),
   (.ite (.op2 .ne (.call 15 [(.var 3), (.var 9), (.op2 .mod (.var 4) (.cst (.int 2)))]) (.tup [(.var 10), (.op2 .mod (.var 4) (.cst (.int 2))), (.op2 .ix (.var 2) (.cst (.int 4))), (.op2 .ix (.var 2) (.cst (.int 4)))])) [(.ret (.cst (.bl false)))] [])] []),
   (.ite (.op2 .ne (.call 31 [(.var 3), (.var 9)]) (.var 10)) [(.ret (.cst (.bl false)))] [])]),
   (.set 5 (.bi .sorted [(.lc [9] false .lst [(.call 26 [(.var 2)])] [] (.tup [(.bi .len [(.var 9)]), (.var 9)]))])),
   (.ite (.or [(.not (.call 29 [(.call 14 [(.var 3)]), (.lc [13, 9] true .lst [(.var 5)] [] (.var 9))])), (.not (.call 29 [(.call 16 [(.var 3)]), (.call 27 [(.var 2)])]))]) [(.ret (.cst (.bl false)))] []),
   (.set 6 (.call 22 [(.op2 .add (.lst [(.rev (.op2 .ix (.var 2) (.cst (.int 0))))]) (.slice (.var 2) (some (.cst (.int 1))) none))])),
   (.set 7 (.op2 .ix (.lst [(.cst (.str [119, 105, 110, 115])), (.cst (.str [108, 111, 115, 101, 115]))]) (.bi .int [(.op2 .eq (.op2 .ix (.var 2) (.cst (.int 3))) (.cst (.str [119, 105, 110, 115])))]))),
   (.ite (.or [(.not (.op2 .eq (.var 3) (.var 6))), (.op2 .eq (.var 3) (.call 22 [(.op2 .add (.slice (.var 2) none (some (.cst (.int 3)))) (.lst [(.var 7), (.op2 .ix (.var 2) (.cst (.int 4)))]))]))]) [(.ret (.cst (.bl false)))] []),
   (.ite (.op2 .ne (.call 31 [(.var 3), (.op2 .ix (.lst [(.cst .non), (.cst (.int 1)), (.cst (.str [101])), (.tup [(.cst (.str [97]))]), (.cst (.str [65]))]) (.draw 1 (.cst (.int 5))))]) (.cst (.str [98, 97, 100]))) [(.ret (.cst (.bl false)))] []),
   (.set 8 (.new (.lst [(.lst [(.cst (.int 0)), (.tup [])]), (.lst [(.cst (.int 0)), (.tup [(.cst (.str [97])), (.cst (.str [97]))])]), (.lst [(.cst (.int 0)), (.lst [(.cst (.str [97]))])]), (.lst [(.cst (.int 0)), (.tup [(.cst (.str []))])]), (.lst [(.cst (.int 0)), (.tup [(.cst (.str [97, 98, 99, 100, 97]))])]), (.lst [(.cst (.int 0)), (.tup [(.cst (.str [101]))])]), (.lst [(.cst (.int 1)), (.cst (.str []))]), (.lst [(.cst (.int 1)), (.cst (.str [98, 97]))])]))),
   (.set 8 (.new (.op2 .add (.var 8) (.lst [(.lst [(.cst (.int 1)), (.cst (.str [97, 97]))]), (.lst [(.cst (.int 2)), (.cst (.str [101]))]), (.lst [(.cst (.int 2)), (.cst .non)]), (.lst [(.cst (.int 3)), (.cst (.str [100, 114, 97, 119, 115]))]), (.lst [(.cst (.int 4)), (.cst (.int 3))]), (.lst [(.cst (.int 4)), (.cst (.int (-1)))]), (.lst [(.cst (.int 4)), (.cst (.bl true))])])))),
   (.ex (.me .app (.var 8) [(.lst [(.cst (.int 0)), (.tup [(.cst (.str [97])), (.cst (.str [98])), (.cst (.str [99])), (.cst (.str [100])), (.cst (.str [97, 98])), (.cst (.str [98, 99])), (.cst (.str [99, 100]))])])])),
   (.setT [11, 12] (.op2 .ix (.var 8) (.draw 1 (.bi .len [(.var 8)])))),
   (.ret (.call 30 [(.op2 .add (.op2 .add (.slice (.var 2) none (some (.var 11))) (.lst [(.var 12)])) (.slice (.var 2) (some (.op2 .add (.var 11) (.cst (.int 1)))) none))]))]⟩
/-- letters_of: 0 lot 1 player -/
def F_letters_of : Fn := ⟨2, 2,
  [(.ret (.ite (.var 1) (.fld (.var 0) [115, 101, 99, 111, 110, 100]) (.fld (.var 0) [102, 105, 114, 115, 116])))]⟩
/-- turns: 0 lot 1 stand 2 found 3 letter 4 here 5 player 6 own 7 other 8 after -/
def F_turns : Fn := ⟨2, 9,
  [(.setT [4, 5, 6, 7] (.var 1)),
   (.set 2 (.new (.lst []))),
   (.for_ [3] false .str [(.call 33 [(.var 0), (.var 5)])] [(.set 8 (.call 9 [(.var 0), (.var 4), (.var 3)])),
   (.ex (.me .app (.var 2) [(.tup [(.var 3), (.ite (.op2 .isN (.var 8) (.cst .non)) (.cst .non) (.tup [(.var 8), (.op2 .sub (.cst (.int 1)) (.var 5)), (.var 7), (.var 6)]))])]))]),
   (.ite (.op2 .gt (.var 6) (.cst (.int 0))) [(.ex (.me .app (.var 2) [(.tup [(.gl 2), (.tup [(.var 4), (.op2 .sub (.cst (.int 1)) (.var 5)), (.var 7), (.op2 .sub (.var 6) (.cst (.int 1)))])])]))] []),
   (.ret (.take 2))]⟩
/-- seen_from: 0 lot 1 after 2 known 3 word 4 number -/
def F_seen_from : Fn := ⟨3, 5,
  [(.ite (.op2 .isN (.var 1) (.cst .non)) [(.ret (.ite (.op2 .eq (.fld (.var 0) [114, 117, 108, 101]) (.cst (.str [119, 105, 110, 115]))) (.tup [(.cst (.str [119, 111, 110])), (.cst (.int 1))]) (.tup [(.cst (.str [108, 111, 115, 116])), (.cst (.int 1))])))] []),
   (.ite (.op2 .nin (.var 1) (.var 2)) [(.ret (.cst .non))] []),
   (.setT [3, 4] (.op2 .ix (.var 2) (.var 1))),
   (.ite (.op2 .eq (.var 3) (.cst (.str [111, 112, 101, 110]))) [(.ret (.tup [(.cst (.str [111, 112, 101, 110])), (.cst .non)]))] []),
   (.ret (.tup [(.ite (.op2 .eq (.var 3) (.cst (.str [119, 111, 110]))) (.cst (.str [108, 111, 115, 116])) (.cst (.str [119, 111, 110]))), (.op2 .add (.var 4) (.cst (.int 1)))]))]⟩
/-- value_by: 0 some 1 won 2 value -/
def F_value_by : Fn := ⟨1, 3,
  [(.set 1 (.lc [2] false .lst [(.var 0)] [(.and [(.op2 .notN (.var 2) (.cst .non)), (.op2 .eq (.op2 .ix (.var 2) (.cst (.int 0))) (.cst (.str [119, 111, 110])))])] (.op2 .ix (.var 2) (.cst (.int 1))))),
   (.ite (.var 1) [(.ret (.tup [(.cst (.str [119, 111, 110])), (.bi .min [(.var 1)])]))] []),
   (.ite (.op2 .isin (.cst .non) (.var 0)) [(.ret (.cst .non))] []),
   (.ite (.bi .any [(.lc [2] false .lst [(.var 0)] [] (.op2 .eq (.op2 .ix (.var 2) (.cst (.int 0))) (.cst (.str [111, 112, 101, 110]))))]) [(.ret (.tup [(.cst (.str [111, 112, 101, 110])), (.cst .non)]))] []),
   (.ret (.tup [(.cst (.str [108, 111, 115, 116])), (.bi .max [(.lc [2] false .lst [(.var 0)] [] (.op2 .ix (.var 2) (.cst (.int 1))))])]))]⟩
/-- decided: 0 lot 1 all_stands 2 rows 3 known 4 going 5 found 6 stand 7 value 8 turn 9 after -/
def F_decided : Fn := ⟨2, 10,
  [(.set 2 (.dc true 6 .lst (.var 1) (.var 6) (.lc [8, 9] true .lst [(.call 34 [(.var 0), (.var 6)])] [] (.var 9)))),
   (.set 3 (.new (.dct0 true))),
   (.set 4 (.cst (.bl true))),
   (.while_ (.var 4) [(.set 5 (.new (.dct0 false))),
   (.for_ [6] false .lst [(.var 1)] [(.ite (.op2 .nin (.var 6) (.var 3)) [(.fz [3] (.set 7 (.call 36 [(.lc [9] false .lst [(.op2 .ix (.var 2) (.var 6))] [] (.call 35 [(.var 0), (.var 9), (.var 3)]))]))),
   (.ite (.op2 .notN (.var 7) (.cst .non)) [(.setIx (.var 5) (.var 6) (.var 7))] [])] [])]),
   (.fz [5] (.for_ [6] false .dct [(.var 5)] [(.setIx (.var 3) (.var 6) (.op2 .ix (.var 5) (.var 6)))])),
   (.set 4 (.op2 .gt (.bi .len [(.var 5)]) (.cst (.int 0))))]),
   (.ret (.take 3))]⟩
/-- all_values: 0 lot 1 all_stands 2 known 3 stand -/
def F_all_values : Fn := ⟨1, 4,
  [(.set 1 (.call 16 [(.var 0)])),
   (.set 2 (.call 37 [(.var 0), (.var 1)])),
   (.ret (.dc true 3 .lst (.var 1) (.var 3) (.me .get (.var 2) [(.var 3), (.tup [(.cst (.str [111, 112, 101, 110])), (.cst .non)])])))]⟩
/-- check_stand: 0 lot 1 stand 2 one -/
def F_check_stand : Fn := ⟨2, 3,
  [(.ite (.or [(.not (.bi .isi [(.var 1), (.ty 4)])), (.op2 .ne (.bi .len [(.var 1)]) (.cst (.int 4))), (.not (.bi .isi [(.op2 .ix (.var 1) (.cst (.int 0))), (.ty 3)]))]) [(.raise 4 none [])] []),
   (.ite (.not (.bi .all [(.lc [2] false .tup [(.slice (.var 1) (some (.cst (.int 1))) none)] [] (.and [(.bi .isi [(.var 2), (.ty 2)]), (.not (.bi .isi [(.var 2), (.ty 1)]))]))])) [(.raise 4 none [])] []),
   (.ite (.op2 .nin (.var 1) (.call 16 [(.var 0)])) [(.raise 4 none [])] [])]⟩
/-- value: 0 lot 1 stand -/
def F_value : Fn := ⟨2, 2,
  [(.ex (.call 39 [(.var 0), (.var 1)])),
   (.ret (.op2 .ix (.call 38 [(.var 0)]) (.var 1)))]⟩
/-- good_turns: 0 lot 1 known 2 stand 3 turn 4 after -/
def F_good_turns : Fn := ⟨3, 5,
  [(.ret (.lc [3, 4] true .lst [(.call 34 [(.var 0), (.var 2)])] [(.op2 .eq (.call 35 [(.var 0), (.var 4), (.var 1)]) (.op2 .ix (.var 1) (.var 2)))] (.var 3)))]⟩
/-- good: 0 lot 1 stand -/
def F_good : Fn := ⟨2, 2,
  [(.ex (.call 39 [(.var 0), (.var 1)])),
   (.ret (.call 41 [(.var 0), (.call 38 [(.var 0)]), (.var 1)]))]⟩
/-- table: 0 lot -/
def F_table : Fn := ⟨1, 1,
  [(.ret (.call 38 [(.var 0)]))]⟩
/-- _law_from: 0 _law_parts 1 _law_known 2 _law_after 3 _law_word_here 4 _law_number -/
def F_law_from : Fn := ⟨3, 5,
  [(.ite (.op2 .isN (.var 2) (.cst .non)) [(.ret (.op2 .ix (.lst [(.tup [(.cst (.str [108, 111, 115, 116])), (.cst (.int 1))]), (.tup [(.cst (.str [119, 111, 110])), (.cst (.int 1))])]) (.bi .int [(.op2 .eq (.op2 .ix (.var 0) (.cst (.int 3))) (.cst (.str [119, 105, 110, 115])))])))] []),
   (.ite (.op2 .nin (.var 2) (.var 1)) [(.ret (.tup [(.cst (.str [111, 112, 101, 110])), (.cst .non)]))] []),
   (.setT [3, 4] (.op2 .ix (.var 1) (.var 2))),
   (.ret (.tup [(.op2 .ix (.op2 .ix (.lst [(.tup [(.cst (.str [108, 111, 115, 116])), (.cst (.str [119, 111, 110]))]), (.tup [(.cst (.str [119, 111, 110])), (.cst (.str [108, 111, 115, 116]))])]) (.bi .int [(.op2 .eq (.var 3) (.cst (.str [108, 111, 115, 116])))])) (.cst (.int 0))), (.op2 .add (.var 4) (.cst (.int 1)))]))]⟩
/-- _law_solved: 0 _law_parts 1 _law_moves 2 _law_stand 3 _law_known 4 _law_number 5 _law_new 6 _law_some 7 _law_turn 8 _law_after 9 _law_one -/
def F_law_solved : Fn := ⟨1, 10,
  [(.set 1 (.new (.dct0 true))),
   (.for_ [2] false .lst [(.call 27 [(.var 0)])] [(.setIx (.var 1) (.var 2) (.lc [7, 8] true .lst [(.call 28 [(.var 0), (.var 2)])] [] (.var 8)))]),
   (.set 3 (.new (.dct0 true))),
   (.for_ [4] false .rng [(.cst (.int 1)), (.op2 .add (.bi .len [(.var 1)]) (.cst (.int 2)))] [(.set 5 (.new (.dct0 true))),
   (.fz [1] (.for_ [2] false .dct [(.var 1)] [(.ite (.op2 .nin (.var 2) (.var 3)) [(.fz [3] (.set 6 (.lc [8] false .lst [(.op2 .ix (.var 1) (.var 2))] [] (.call 44 [(.var 0), (.var 3), (.var 8)])))),
   (.ite (.op2 .isin (.tup [(.cst (.str [119, 111, 110])), (.var 4)]) (.var 6)) [(.setIx (.var 5) (.var 2) (.tup [(.cst (.str [119, 111, 110])), (.var 4)]))] [(.ite (.op2 .eq (.bi .len [(.lc [9] false .lst [(.var 6)] [(.op2 .ne (.op2 .ix (.var 9) (.cst (.int 0))) (.cst (.str [108, 111, 115, 116])))] (.var 9))]) (.cst (.int 0))) [(.setIx (.var 5) (.var 2) (.tup [(.cst (.str [108, 111, 115, 116])), (.var 4)]))] [])])] [])])),
   (.fz [5] (.for_ [2] false .dct [(.var 5)] [(.setIx (.var 3) (.var 2) (.op2 .ix (.var 5) (.var 2)))]))]),
   (.ret (.take 3))]⟩
/-- _law_refused: 0 _law_lot 1 _law_thing 2 _law_told -/
def F_law_refused : Fn := ⟨2, 3,
  [(.set 2 (.cst (.bl false))),
   (.try_ [(.ex (.call 40 [(.var 0), (.var 1)]))] [(.c [(0, false), (1, false), (4, true)] 2 (.bl true))]),
   (.ret (.var 2))]⟩
/-- law: 0 _law_script 1 _law_draws 2 _law_parts 3 _law_lot 4 _law_known 5 _law_due 6 _law_stand 7 _law_rows 8 _law_k 9 _law_here 10 _law_odd 11 _law_some 12 _law_turn 13 _law_after -/
def F_law_k02 : Fn := ⟨1, 14,
  [(.set 2 (.callR 21 [true] [(.var 1)])),
   (.set 3 (.call 22 [(.var 2)])),
   (.set 4 (.call 45 [(.var 2)])),
   (.set 5 (.new (.dct0 true))),
   (.for_ [6] false .lst [(.call 27 [(.var 2)])] [(.setIx (.var 5) (.var 6) (.me .get (.var 4) [(.var 6), (.tup [(.cst (.str [111, 112, 101, 110])), (.cst .non)])]))]),
   (.fz [5] (.ite (.not (.call 29 [(.call 43 [(.var 3)]), (.var 5)])) [(.ret (.cst (.bl false)))] [])),
   (.set 7 (.bi .sorted [(.var 5)])),
   (.for_ [8] false .rng [(.cst (.int 6))] [(.set 6 (.op2 .ix (.var 7) (.draw 1 (.bi .len [(.var 7)])))),
   (.set 11 (.new (.lst []))),
   (.for_ [12, 13] true .lst [(.call 28 [(.var 2), (.var 6)])] [(.ite (.op2 .eq (.call 44 [(.var 2), (.var 4), (.var 13)]) (.op2 .ix (.var 5) (.var 6))) [(.ex (.me .app (.var 11) [(.var 12)]))] [])]),
   (.fz [11] (.ite (.or [(.not (.call 29 [(.call 40 [(.var 3), (.var 6)]), (.op2 .ix (.var 5) (.var 6))])), (.not (.call 29 [(.call 42 [(.var 3), (.var 6)]), (.var 11)]))]) [(.ret (.cst (.bl false)))] []))]),
   (.set 9 (.op2 .ix (.var 7) (.cst (.int 0)))),
   (.set 10 (.lst [(.cst .non), (.slice (.var 9) none (some (.cst (.int 3)))), (.op2 .add (.tup [(.cst (.str [122, 122]))]) (.slice (.var 9) (some (.cst (.int 1))) none)), (.op2 .add (.tup [(.op2 .ix (.var 9) (.cst (.int 0))), (.cst (.int 2))]) (.slice (.var 9) (some (.cst (.int 2))) none)), (.op2 .add (.slice (.var 9) none (some (.cst (.int 3)))) (.tup [(.cst (.int 3))])), (.op2 .add (.tup [(.op2 .ix (.var 9) (.cst (.int 0))), (.cst (.bl true))]) (.slice (.var 9) (some (.cst (.int 2))) none))])),
   (.set 10 (.op2 .add (.var 10) (.lst [(.bi .list [(.var 9)]), (.op2 .add (.tup [(.cst (.int 1))]) (.slice (.var 9) (some (.cst (.int 1))) none))]))),
   (.ret (.call 46 [(.var 3), (.op2 .ix (.var 10) (.draw 1 (.bi .len [(.var 10)])))]))]⟩
/-- is_value: 0 thing -/
def F_is_value : Fn := ⟨1, 1,
  [(.ite (.or [(.not (.bi .isi [(.var 0), (.ty 4)])), (.op2 .ne (.bi .len [(.var 0)]) (.cst (.int 2))), (.not (.bi .isi [(.op2 .ix (.var 0) (.cst (.int 0))), (.ty 3)]))]) [(.ret (.cst (.bl false)))] []),
   (.ite (.op2 .eq (.op2 .ix (.var 0) (.cst (.int 0))) (.cst (.str [111, 112, 101, 110]))) [(.ret (.op2 .isN (.op2 .ix (.var 0) (.cst (.int 1))) (.cst .non)))] []),
   (.ite (.or [(.op2 .nin (.op2 .ix (.var 0) (.cst (.int 0))) (.tup [(.cst (.str [119, 111, 110])), (.cst (.str [108, 111, 115, 116]))])), (.not (.bi .isi [(.op2 .ix (.var 0) (.cst (.int 1))), (.ty 2)])), (.bi .isi [(.op2 .ix (.var 0) (.cst (.int 1))), (.ty 1)])]) [(.ret (.cst (.bl false)))] []),
   (.ret (.op2 .ge (.op2 .ix (.var 0) (.cst (.int 1))) (.cst (.int 1))))]⟩
/-- are_stands: 0 lot 1 thing 2 key 3 one -/
def F_are_stands : Fn := ⟨2, 4,
  [(.for_ [2] false .dct [(.var 1)] [(.ite (.or [(.not (.bi .isi [(.var 2), (.ty 4)])), (.op2 .ne (.bi .len [(.var 2)]) (.cst (.int 4))), (.not (.bi .isi [(.op2 .ix (.var 2) (.cst (.int 0))), (.ty 3)]))]) [(.ret (.cst (.bl false)))] []),
   (.ite (.not (.bi .all [(.lc [3] false .tup [(.slice (.var 2) (some (.cst (.int 1))) none)] [] (.and [(.bi .isi [(.var 3), (.ty 2)]), (.not (.bi .isi [(.var 3), (.ty 1)]))]))])) [(.ret (.cst (.bl false)))] [])]),
   (.ret (.op2 .eq (.bi .sorted [(.var 1)]) (.call 16 [(.var 0)])))]⟩
/-- shows_table: 0 lot 1 thing 2 stand 3 some 4 turn 5 after -/
def F_shows_table : Fn := ⟨2, 6,
  [(.ite (.or [(.not (.bi .isi [(.var 1), (.ty 6)])), (.not (.call 49 [(.var 0), (.var 1)]))]) [(.ret (.cst (.bl false)))] []),
   (.ite (.not (.bi .all [(.lc [2] false .dct [(.var 1)] [] (.call 48 [(.op2 .ix (.var 1) (.var 2))]))])) [(.ret (.cst (.bl false)))] []),
   (.for_ [2] false .dct [(.var 1)] [(.set 3 (.lc [4, 5] true .lst [(.call 34 [(.var 0), (.var 2)])] [] (.call 35 [(.var 0), (.var 5), (.var 1)]))),
   (.ite (.op2 .ne (.call 36 [(.var 3)]) (.op2 .ix (.var 1) (.var 2))) [(.ret (.cst (.bl false)))] [])]),
   (.ret (.cst (.bl true)))]⟩
/-- law: 0 _law_script 1 _law_draws 2 _law_parts 3 _law_lot 4 _law_told 5 _law_rows 6 _law_k 7 _law_all_open 8 _law_stand 9 _law_less 10 _law_more 11 _law_odd 12 _law_thing 13 _law_some 14 _law_other 15 _law_word_here 16 _law_number -/
def F_law_k03 : Fn := ⟨1, 17,
  [(.set 2 (.callR 21 [true] [(.var 1)])),
   (.set 3 (.call 22 [(.var 2)])),
   (.set 4 (.call 43 [(.var 3)])),
   (.ite (.not (.call 50 [(.var 3), (.var 4)])) [(.ret (.cst (.bl false)))] []),
   (.set 5 (.bi .sorted [(.var 4)])),
   (.for_ [6] false .rng [(.cst (.int 8))] [(.set 8 (.op2 .ix (.var 5) (.draw 1 (.bi .len [(.var 5)])))),
   (.setT [15, 16] (.op2 .ix (.var 4) (.var 8))),
   (.set 13 (.new (.lst [(.tup [(.cst (.str [119, 111, 110])), (.op2 .add (.cst (.int 1)) (.draw 1 (.cst (.int 4))))]), (.tup [(.cst (.str [108, 111, 115, 116])), (.op2 .add (.cst (.int 1)) (.draw 1 (.cst (.int 4))))]), (.tup [(.cst (.str [111, 112, 101, 110])), (.cst .non)])]))),
   (.ite (.op2 .notN (.var 16) (.cst .non)) [(.ex (.me .app (.var 13) [(.tup [(.var 15), (.op2 .add (.var 16) (.cst (.int 1)))])]))] []),
   (.set 14 (.new (.bi .dict [(.var 4)]))),
   (.setIx (.var 14) (.var 8) (.op2 .ix (.var 13) (.draw 1 (.bi .len [(.var 13)])))),
   (.fz [14] (.ite (.op2 .ne (.call 50 [(.var 3), (.var 14)]) (.op2 .eq (.op2 .ix (.var 14) (.var 8)) (.op2 .ix (.var 4) (.var 8)))) [(.ret (.cst (.bl false)))] []))]),
   (.set 7 (.new (.dct0 true))),
   (.for_ [8] false .lst [(.var 5)] [(.setIx (.var 7) (.var 8) (.tup [(.cst (.str [111, 112, 101, 110])), (.cst .non)]))]),
   (.fz [7] (.ite (.op2 .ne (.call 50 [(.var 3), (.var 7)]) (.op2 .eq (.var 7) (.var 4))) [(.ret (.cst (.bl false)))] [])),
   (.set 9 (.new (.bi .dict [(.var 4)]))),
   (.ex (.me .popK (.var 9) [(.op2 .ix (.var 5) (.draw 1 (.bi .len [(.var 5)])))])),
   (.set 10 (.new (.bi .dict [(.var 4)]))),
   (.setIx (.var 10) (.tup [(.cst (.str [122, 122])), (.cst (.int 0)), (.cst (.int 0)), (.cst (.int 0))]) (.tup [(.cst (.str [111, 112, 101, 110])), (.cst .non)])),
   (.fz [9, 10] (.set 11 (.new (.lst [(.cst .non), (.lst []), (.dct0 false), (.var 9), (.var 10), (.dct [(.cst (.int 1))] [(.cst (.int 2))])])))),
   (.set 8 (.op2 .ix (.var 5) (.cst (.int 0)))),
   (.for_ [12] false .lst [(.lst [(.cst .non), (.tup [(.cst (.str [119, 111, 110]))]), (.tup [(.cst (.str [119, 111, 110])), (.cst (.int 0))]), (.tup [(.cst (.str [111, 112, 101, 110])), (.cst (.int 1))]), (.tup [(.cst (.str [87, 111, 110])), (.cst (.int 1))]), (.lst [(.cst (.str [119, 111, 110])), (.cst (.int 1))]), (.tup [(.cst (.str [108, 111, 115, 116])), (.cst (.bl true))]), (.tup [(.cst (.str [108, 111, 115, 116])), (.cst .non)])])] [(.set 14 (.new (.bi .dict [(.var 4)]))),
   (.setIx (.var 14) (.var 8) (.var 12)),
   (.fz [14] (.ex (.me .app (.var 11) [(.var 14)])))]),
   (.ret (.not (.call 50 [(.var 3), (.op2 .ix (.var 11) (.draw 1 (.bi .len [(.var 11)])))])))]⟩
/-- _wall: 0 k -/
def F_wall : Fn := ⟨1, 1,
  [(.while_ (.cst (.bl true)) [.pass])]⟩
/-- line: 0 lot 1 stand 2 most 3 known 4 found 5 turn -/
def F_line : Fn := ⟨3, 6,
  [(.ex (.call 39 [(.var 0), (.var 1)])),
   (.set 3 (.call 38 [(.var 0)])),
   (.set 4 (.new (.lst []))),
   (.while_ (.and [(.op2 .notN (.var 1) (.cst .non)), (.op2 .lt (.bi .len [(.var 4)]) (.var 2))]) [(.set 5 (.op2 .ix (.call 41 [(.var 0), (.var 3), (.var 1)]) (.cst (.int 0)))),
   (.ex (.me .app (.var 4) [(.var 5)])),
   (.set 1 (.op2 .ix (.bi .dict [(.call 34 [(.var 0), (.var 1)])]) (.var 5)))]),
   (.ret (.take 4))]⟩
/-- Led.__init__: 0 self 1 lot 2 word 3 player -/
def F_Led_init : Fn := ⟨4, 4,
  [(.setFld 12 (.var 0) [108, 111, 116] (.var 1)),
   (.setFld 12 (.var 0) [98, 101, 103, 105, 110] (.var 2)),
   (.setFld 12 (.var 0) [115, 116, 97, 114, 116, 101, 114] (.var 3)),
   (.setFld 12 (.var 0) [102, 105, 114, 115, 116, 95, 115, 116, 97, 110, 100] (.call 15 [(.var 1), (.var 2), (.var 3)])),
   (.setFld 12 (.var 0) [107, 110, 111, 119, 110] (.call 38 [(.var 1)])),
   (.setFld 12 (.var 0) [100, 111, 110, 101] (.lst []))]⟩
/-- Led.stand: 0 self 1 found 2 turn -/
def F_Led_stand : Fn := ⟨1, 3,
  [(.set 1 (.fld (.var 0) [102, 105, 114, 115, 116, 95, 115, 116, 97, 110, 100])),
   (.for_ [2] false .lst [(.fld (.var 0) [100, 111, 110, 101])] [(.set 1 (.op2 .ix (.bi .dict [(.call 34 [(.fld (.var 0) [108, 111, 116]), (.var 1)])]) (.var 2)))]),
   (.ret (.var 1))]⟩
/-- Led.turn: 0 self 1 what 2 here -/
def F_Led_turn : Fn := ⟨2, 3,
  [(.set 2 (.mc (.var 0) 55 [])),
   (.ite (.op2 .isN (.var 2) (.cst .non)) [(.raise 7 none [])] []),
   (.ite (.or [(.not (.bi .isi [(.var 1), (.ty 3)])), (.op2 .nin (.var 1) (.bi .dict [(.call 34 [(.fld (.var 0) [108, 111, 116]), (.var 2)])]))]) [(.raise 6 none [])] []),
   (.ex (.me .app (.fld (.var 0) [100, 111, 110, 101]) [(.var 1)]))]⟩
/-- Led.word: 0 self 1 turn -/
def F_Led_word : Fn := ⟨1, 2,
  [(.ret (.op2 .add (.fld (.var 0) [98, 101, 103, 105, 110]) (.me .join (.cst (.str [])) [(.lc [1] false .lst [(.fld (.var 0) [100, 111, 110, 101])] [(.op2 .ne (.var 1) (.gl 2))] (.var 1))])))]⟩
/-- Led.player: 0 self -/
def F_Led_player : Fn := ⟨1, 1,
  [(.ret (.op2 .mod (.op2 .add (.fld (.var 0) [115, 116, 97, 114, 116, 101, 114]) (.bi .len [(.fld (.var 0) [100, 111, 110, 101])])) (.cst (.int 2))))]⟩
/-- Led.left: 0 self 1 used 2 at 3 turn -/
def F_Led_left : Fn := ⟨1, 4,
  [(.set 1 (.new (.lst [(.cst (.int 0)), (.cst (.int 0))]))),
   (.for_ [2, 3] true .enum [(.fld (.var 0) [100, 111, 110, 101])] [(.ite (.op2 .eq (.var 3) (.gl 2)) [(.augIx (.var 1) (.op2 .mod (.op2 .add (.fld (.var 0) [115, 116, 97, 114, 116, 101, 114]) (.var 2)) (.cst (.int 2))) (.cst (.int 1)))] [])]),
   (.ret (.tup [(.op2 .sub (.fld (.fld (.var 0) [108, 111, 116]) [112, 97, 115, 115, 101, 115]) (.op2 .ix (.var 1) (.cst (.int 0)))), (.op2 .sub (.fld (.fld (.var 0) [108, 111, 116]) [112, 97, 115, 115, 101, 115]) (.op2 .ix (.var 1) (.cst (.int 1))))]))]⟩
/-- Led.winner: 0 self 1 last -/
def F_Led_winner : Fn := ⟨1, 2,
  [(.ite (.op2 .notN (.mc (.var 0) 55 []) (.cst .non)) [(.ret (.cst .non))] []),
   (.set 1 (.op2 .mod (.op2 .add (.op2 .add (.fld (.var 0) [115, 116, 97, 114, 116, 101, 114]) (.bi .len [(.fld (.var 0) [100, 111, 110, 101])])) (.cst (.int 1))) (.cst (.int 2)))),
   (.ret (.ite (.op2 .eq (.fld (.fld (.var 0) [108, 111, 116]) [114, 117, 108, 101]) (.cst (.str [119, 105, 110, 115]))) (.var 1) (.op2 .sub (.cst (.int 1)) (.var 1))))]⟩
/-- Led.best: 0 self 1 here -/
def F_Led_best : Fn := ⟨1, 2,
  [(.set 1 (.mc (.var 0) 55 [])),
   (.ite (.op2 .isN (.var 1) (.cst .non)) [(.raise 7 none [])] []),
   (.ret (.op2 .ix (.call 41 [(.fld (.var 0) [108, 111, 116]), (.fld (.var 0) [107, 110, 111, 119, 110]), (.var 1)]) (.cst (.int 0))))]⟩
/-- Led.undo: 0 self -/
def F_Led_undo : Fn := ⟨1, 1,
  [(.ex (.call 52 [(.cst (.int 0))]))]⟩
/-- Led.__len__: 0 self -/
def F_Led_len : Fn := ⟨1, 1,
  [(.ret (.bi .len [(.fld (.var 0) [100, 111, 110, 101])]))]⟩
/-- Led.__eq__: 0 self 1 other -/
def F_Led_eq : Fn := ⟨2, 2,
  [(.ite (.or [(.not (.bi .isi [(.var 1), (.gl 16)])), (.not (.op2 .eq (.fld (.var 0) [108, 111, 116]) (.fld (.var 1) [108, 111, 116])))]) [(.ret (.cst (.bl false)))] []),
   (.ret (.op2 .eq (.tup [(.fld (.var 0) [98, 101, 103, 105, 110]), (.fld (.var 0) [115, 116, 97, 114, 116, 101, 114]), (.fld (.var 0) [100, 111, 110, 101])]) (.tup [(.fld (.var 1) [98, 101, 103, 105, 110]), (.fld (.var 1) [115, 116, 97, 114, 116, 101, 114]), (.fld (.var 1) [100, 111, 110, 101])])))]⟩
/-- _law_turns: 0 _law_parts 1 _law_stand_here 2 _law_found 3 _law_letter 4 _law_here 5 _law_player 6 _law_own 7 _law_other 8 _law_word_here -/
def F_law_turns_k04 : Fn := ⟨2, 9,
  [(.setT [4, 5, 6, 7] (.var 1)),
   (.set 2 (.new (.lst []))),
   (.for_ [3] false .str [(.op2 .ix (.var 0) (.op2 .add (.cst (.int 1)) (.var 5)))] [(.set 8 (.op2 .add (.var 4) (.var 3))),
   (.ite (.call 23 [(.var 0), (.var 8)]) [(.ex (.me .app (.var 2) [(.tup [(.var 3), (.cst .non)])]))] [(.ex (.me .app (.var 2) [(.tup [(.var 3), (.tup [(.call 25 [(.var 0), (.var 8)]), (.op2 .sub (.cst (.int 1)) (.var 5)), (.var 7), (.var 6)])])]))])]),
   (.ite (.op2 .gt (.var 6) (.cst (.int 0))) [(.ex (.me .app (.var 2) [(.tup [(.cst (.str [112, 97, 115, 115])), (.tup [(.var 4), (.op2 .sub (.cst (.int 1)) (.var 5)), (.var 7), (.op2 .sub (.var 6) (.cst (.int 1)))])])]))] []),
   (.ret (.take 2))]⟩
/-- _law_solved: 0 _law_parts 1 _law_moves 2 _law_stand_here 3 _law_known 4 _law_number 5 _law_new 6 _law_some 7 _law_turn 8 _law_after 9 _law_one -/
def F_law_solved_k04 : Fn := ⟨1, 10,
  [(.set 1 (.new (.dct0 true))),
   (.for_ [2] false .lst [(.call 27 [(.var 0)])] [(.setIx (.var 1) (.var 2) (.lc [7, 8] true .lst [(.call 65 [(.var 0), (.var 2)])] [] (.var 8)))]),
   (.set 3 (.new (.dct0 true))),
   (.for_ [4] false .rng [(.cst (.int 1)), (.op2 .add (.bi .len [(.var 1)]) (.cst (.int 2)))] [(.set 5 (.new (.dct0 true))),
   (.fz [1] (.for_ [2] false .dct [(.var 1)] [(.ite (.op2 .nin (.var 2) (.var 3)) [(.fz [3] (.set 6 (.lc [8] false .lst [(.op2 .ix (.var 1) (.var 2))] [] (.call 44 [(.var 0), (.var 3), (.var 8)])))),
   (.ite (.op2 .isin (.tup [(.cst (.str [119, 111, 110])), (.var 4)]) (.var 6)) [(.setIx (.var 5) (.var 2) (.tup [(.cst (.str [119, 111, 110])), (.var 4)]))] [(.ite (.op2 .eq (.bi .len [(.lc [9] false .lst [(.var 6)] [(.op2 .ne (.op2 .ix (.var 9) (.cst (.int 0))) (.cst (.str [108, 111, 115, 116])))] (.var 9))]) (.cst (.int 0))) [(.setIx (.var 5) (.var 2) (.tup [(.cst (.str [108, 111, 115, 116])), (.var 4)]))] [])])] [])])),
   (.fz [5] (.for_ [2] false .dct [(.var 5)] [(.setIx (.var 3) (.var 2) (.op2 .ix (.var 5) (.var 2)))]))]),
   (.ret (.take 3))]⟩
/-- _law_word_of: 0 _law_known 1 _law_stand_here -/
def F_law_word_of : Fn := ⟨2, 2,
  [(.ret (.me .get (.var 0) [(.var 1), (.tup [(.cst (.str [111, 112, 101, 110])), (.cst .non)])]))]⟩
/-- _law_line: 0 _law_parts 1 _law_known 2 _law_stand_here 3 _law_most 4 _law_found 5 _law_some 6 _law_turn 7 _law_after -/
def F_law_line : Fn := ⟨4, 8,
  [(.set 4 (.new (.lst []))),
   (.while_ (.and [(.op2 .notN (.var 2) (.cst .non)), (.op2 .lt (.bi .len [(.var 4)]) (.var 3))]) [(.set 5 (.new (.lst []))),
   (.for_ [6, 7] true .lst [(.call 65 [(.var 0), (.var 2)])] [(.ite (.op2 .eq (.call 44 [(.var 0), (.var 1), (.var 7)]) (.call 67 [(.var 1), (.var 2)])) [(.ex (.me .app (.var 5) [(.tup [(.var 6), (.var 7)])]))] [])]),
   (.setT [6, 2] (.op2 .ix (.var 5) (.cst (.int 0)))),
   (.ex (.me .app (.var 4) [(.var 6)]))]),
   (.ret (.take 4))]⟩
/-- _law_stand: 0 _law_parts 1 _law_word_here 2 _law_player -/
def F_law_stand : Fn := ⟨3, 3,
  [(.ret (.tup [(.call 25 [(.var 0), (.var 1)]), (.var 2), (.op2 .ix (.var 0) (.cst (.int 4))), (.op2 .ix (.var 0) (.cst (.int 4)))]))]⟩
/-- law: 0 _law_script 1 _law_draws 2 _law_parts 3 _law_lot 4 _law_known 5 _law_word_here 6 _law_player 7 _law_begin_here 8 _law_most 9 _law_keeper 10 _law_led 11 _law_stand_here 12 _law_k 13 _law_word_value 14 _law_number 15 _law_some 16 _law_turn 17 _law_after 18 _law_what 19 _law_there -/
def F_law_k04 : Fn := ⟨1, 20,
  [(.set 2 (.callR 21 [true] [(.var 1)])),
   (.set 3 (.call 22 [(.var 2)])),
   (.set 4 (.call 66 [(.var 2)])),
   (.set 5 (.callR 19 [true, false, false] [(.var 1), (.cst (.int 0)), (.cst (.int 4))])),
   (.ite (.call 24 [(.var 2), (.var 5)]) [(.set 5 (.cst (.str [])))] []),
   (.set 6 (.draw 1 (.cst (.int 2)))),
   (.set 7 (.call 69 [(.var 2), (.var 5), (.var 6)])),
   (.set 8 (.draw 1 (.cst (.int 12)))),
   (.ite (.not (.call 29 [(.call 53 [(.var 3), (.var 7), (.var 8)]), (.call 68 [(.var 2), (.var 4), (.var 7), (.var 8)])])) [(.ret (.cst (.bl false)))] []),
   (.setT [13, 14] (.call 67 [(.var 4), (.var 7)])),
   (.ite (.not (.call 29 [(.call 40 [(.var 3), (.var 7)]), (.tup [(.var 13), (.var 14)])])) [(.ret (.cst (.bl false)))] []),
   (.set 9 (.op2 .ix (.lst [(.op2 .sub (.cst (.int 1)) (.var 6)), (.var 6)]) (.bi .int [(.op2 .ne (.var 13) (.cst (.str [108, 111, 115, 116])))]))),
   (.set 10 (.mk 1 [(.var 3), (.var 5), (.var 6)])),
   (.set 11 (.var 7)),
   (.for_ [12] false .rng [(.cst (.int 2000))] [(.ite (.or [(.op2 .isN (.var 11) (.cst .non)), (.and [(.op2 .ge (.bi .len [(.var 10)]) (.cst (.int 25))), (.op2 .eq (.var 13) (.cst (.str [111, 112, 101, 110])))])]) [.brk] []),
   (.set 15 (.call 65 [(.var 2), (.var 11)])),
   (.setT [16, 17] (.op2 .ix (.var 15) (.draw 1 (.bi .len [(.var 15)])))),
   (.ite (.op2 .eq (.mc (.var 10) 58 []) (.var 9)) [(.set 16 (.mc (.var 10) 61 [])),
   (.ite (.op2 .nin (.var 16) (.call 42 [(.var 3), (.var 11)])) [(.ret (.cst (.bl false)))] []),
   (.set 17 (.op2 .ix (.lc [18, 19] true .lst [(.var 15)] [(.op2 .eq (.var 18) (.var 16))] (.var 19)) (.cst (.int 0))))] []),
   (.ex (.mc (.var 10) 56 [(.var 16)])),
   (.set 11 (.var 17))]),
   (.ite (.op2 .eq (.var 13) (.cst (.str [111, 112, 101, 110]))) [(.ret (.op2 .ne (.mc (.var 10) 60 []) (.op2 .sub (.cst (.int 1)) (.var 9))))] []),
   (.ret (.and [(.op2 .eq (.mc (.var 10) 60 []) (.var 9)), (.op2 .le (.bi .len [(.var 10)]) (.var 14))]))]⟩
/-- with_barred: 0 lot 1 barred -/
def F_with_barred : Fn := ⟨2, 2,
  [(.ret (.mk 0 [(.var 1), (.fld (.var 0) [102, 105, 114, 115, 116]), (.fld (.var 0) [115, 101, 99, 111, 110, 100]), (.fld (.var 0) [114, 117, 108, 101]), (.fld (.var 0) [112, 97, 115, 115, 101, 115])]))]⟩
/-- first_word: 0 lot 1 values 2 here 3 player -/
def F_first_word : Fn := ⟨4, 4,
  [(.ret (.op2 .ix (.op2 .ix (.var 1) (.tup [(.var 2), (.var 3), (.fld (.var 0) [112, 97, 115, 115, 101, 115]), (.fld (.var 0) [112, 97, 115, 115, 101, 115])])) (.cst (.int 0))))]⟩
/-- Both.__init__: 0 self 1 one 2 other -/
def F_Both_init : Fn := ⟨3, 3,
  [(.ite (.op2 .ne (.call 6 [(.var 1)]) (.call 6 [(.var 2)])) [(.raise 1 none [])] []),
   (.setFld 11 (.var 0) [111, 110, 101] (.var 1)),
   (.setFld 11 (.var 0) [111, 116, 104, 101, 114] (.var 2)),
   (.setFld 11 (.var 0) [102, 105, 114, 115, 116] (.call 38 [(.var 1)])),
   (.setFld 11 (.var 0) [115, 101, 99, 111, 110, 100] (.call 38 [(.var 2)]))]⟩
/-- Both.parted_player: 0 self 1 here 2 there 3 player 4 one -/
def F_Both_parted_player : Fn := ⟨3, 5,
  [(.for_ [3] false .tup [(.tup [(.cst (.int 0)), (.cst (.int 1))])] [(.set 4 (.call 72 [(.fld (.var 0) [111, 110, 101]), (.fld (.var 0) [102, 105, 114, 115, 116]), (.var 1), (.var 3)])),
   (.ite (.op2 .ne (.var 4) (.call 72 [(.fld (.var 0) [111, 116, 104, 101, 114]), (.fld (.var 0) [115, 101, 99, 111, 110, 100]), (.var 2), (.var 3)])) [(.ret (.var 3))] [])]),
   (.ret (.cst .non))]⟩
/-- parted_here: 0 both 1 pair -/
def F_parted_here : Fn := ⟨2, 2,
  [(.ite (.op2 .isin (.cst .non) (.var 1)) [(.ret (.cst (.int 0)))] []),
   (.ret (.mc (.var 0) 74 [(.op2 .ix (.var 1) (.cst (.int 0))), (.op2 .ix (.var 1) (.cst (.int 1)))]))]⟩
/-- parting: 0 one 1 other 2 both 3 waiting 4 words 5 at 6 pair 7 player 8 letter 9 after -/
def F_parting : Fn := ⟨2, 10,
  [(.set 2 (.mk 2 [(.var 0), (.var 1)])),
   (.set 3 (.new (.lst [(.tup [(.cst (.str [])), (.cst (.str []))])]))),
   (.set 4 (.new (.dct [(.tup [(.cst (.str [])), (.cst (.str []))])] [(.cst (.str []))]))),
   (.set 5 (.cst (.int 0))),
   (.while_ (.op2 .lt (.var 5) (.bi .len [(.var 3)])) [(.set 6 (.op2 .ix (.var 3) (.var 5))),
   (.aug 5 .add (.cst (.int 1))),
   (.set 7 (.call 75 [(.var 2), (.var 6)])),
   (.ite (.op2 .notN (.var 7) (.cst .non)) [(.ret (.tup [(.op2 .ix (.var 4) (.var 6)), (.var 7)]))] []),
   (.for_ [8] false .str [(.gl 0)] [(.set 9 (.tup [(.call 9 [(.var 0), (.op2 .ix (.var 6) (.cst (.int 0))), (.var 8)]), (.call 9 [(.var 1), (.op2 .ix (.var 6) (.cst (.int 1))), (.var 8)])])),
   (.ite (.and [(.op2 .ne (.var 9) (.tup [(.cst .non), (.cst .non)])), (.op2 .nin (.var 9) (.var 4))]) [(.setIx (.var 4) (.var 9) (.op2 .add (.op2 .ix (.var 4) (.var 6)) (.var 8))),
   (.ex (.me .app (.var 3) [(.var 9)]))] [])])]),
   (.ret (.cst .non))]⟩
/-- alike: 0 one 1 other -/
def F_alike : Fn := ⟨2, 2,
  [(.ret (.op2 .isN (.call 76 [(.var 0), (.var 1)]) (.cst .non)))]⟩
/-- without: 0 barred 1 at -/
def F_without : Fn := ⟨2, 2,
  [(.ret (.op2 .add (.slice (.var 0) none (some (.var 1))) (.slice (.var 0) (some (.op2 .add (.var 1) (.cst (.int 1)))) none)))]⟩
/-- needless: 0 lot 1 some 2 at 3 other -/
def F_needless : Fn := ⟨1, 4,
  [(.ite (.op2 .eq (.bi .len [(.fld (.var 0) [98, 97, 114, 114, 101, 100])]) (.cst (.int 1))) [(.ret (.lst []))] []),
   (.set 1 (.lc [2] false .rng [(.bi .len [(.fld (.var 0) [98, 97, 114, 114, 101, 100])])] [] (.call 71 [(.var 0), (.call 78 [(.fld (.var 0) [98, 97, 114, 114, 101, 100]), (.var 2)])]))),
   (.ret (.lc [2, 3] true .enum [(.var 1)] [(.call 77 [(.var 0), (.var 3)])] (.var 2)))]⟩
/-- _law_drawn: 0 _law_draws 1 _law_barred_here 2 _law_first_here 3 _law_second 4 _law_rule -/
def F_law_drawn_k05 : Fn := ⟨1, 5,
  [(.set 1 (.callR 20 [true, false] [(.var 0), (.op2 .add (.cst (.int 1)) (.draw 0 (.cst (.int 6))))])),
   (.set 2 (.callR 18 [true] [(.var 0)])),
   (.set 3 (.op2 .ix (.lst [(.var 2), (.callR 18 [true] [(.var 0)])]) (.draw 0 (.cst (.int 2))))),
   (.set 4 (.op2 .ix (.lst [(.cst (.str [108, 111, 115, 101, 115])), (.cst (.str [119, 105, 110, 115]))]) (.draw 0 (.cst (.int 2))))),
   (.ret (.lst [(.var 1), (.var 2), (.var 3), (.var 4), (.op2 .mul (.draw 0 (.cst (.int 3))) (.draw 0 (.cst (.int 2))))]))]⟩
/-- _law_stands: 0 _law_parts 1 _law_found 2 _law_here 3 _law_own 4 _law_other_here -/
def F_law_stands_k05 : Fn := ⟨1, 5,
  [(.set 1 (.lst [])),
   (.for_ [2] false .lst [(.call 26 [(.var 0)])] [(.for_ [3] false .rng [(.op2 .add (.op2 .ix (.var 0) (.cst (.int 4))) (.cst (.int 1)))] [(.for_ [4] false .rng [(.op2 .add (.op2 .ix (.var 0) (.cst (.int 4))) (.cst (.int 1)))] [(.set 1 (.op2 .add (.var 1) (.lst [(.tup [(.var 2), (.cst (.int 0)), (.var 3), (.var 4)]), (.tup [(.var 2), (.cst (.int 1)), (.var 3), (.var 4)])])))])])]),
   (.ret (.bi .sorted [(.var 1)]))]⟩
/-- _law_turns: 0 _law_parts 1 _law_stand 2 _law_found 3 _law_letter 4 _law_here 5 _law_player 6 _law_own 7 _law_other_here 8 _law_word_here -/
def F_law_turns_k05 : Fn := ⟨2, 9,
  [(.setT [4, 5, 6, 7] (.var 1)),
   (.set 2 (.new (.lst []))),
   (.for_ [3] false .str [(.op2 .ix (.var 0) (.op2 .add (.cst (.int 1)) (.var 5)))] [(.set 8 (.op2 .add (.var 4) (.var 3))),
   (.ite (.call 23 [(.var 0), (.var 8)]) [(.ex (.me .app (.var 2) [(.tup [(.var 3), (.cst .non)])]))] [(.ex (.me .app (.var 2) [(.tup [(.var 3), (.tup [(.call 25 [(.var 0), (.var 8)]), (.op2 .sub (.cst (.int 1)) (.var 5)), (.var 7), (.var 6)])])]))])]),
   (.ite (.op2 .gt (.var 6) (.cst (.int 0))) [(.ex (.me .app (.var 2) [(.tup [(.cst (.str [112, 97, 115, 115])), (.tup [(.var 4), (.op2 .sub (.cst (.int 1)) (.var 5)), (.var 7), (.op2 .sub (.var 6) (.cst (.int 1)))])])]))] []),
   (.ret (.take 2))]⟩
/-- _law_solved: 0 _law_parts 1 _law_moves 2 _law_stand 3 _law_known 4 _law_number 5 _law_new 6 _law_some 7 _law_turn 8 _law_after 9 _law_one -/
def F_law_solved_k05 : Fn := ⟨1, 10,
  [(.set 1 (.new (.dct0 true))),
   (.for_ [2] false .lst [(.call 81 [(.var 0)])] [(.setIx (.var 1) (.var 2) (.lc [7, 8] true .lst [(.call 82 [(.var 0), (.var 2)])] [] (.var 8)))]),
   (.set 3 (.new (.dct0 true))),
   (.for_ [4] false .rng [(.cst (.int 1)), (.op2 .add (.bi .len [(.var 1)]) (.cst (.int 2)))] [(.set 5 (.new (.dct0 true))),
   (.fz [1] (.for_ [2] false .dct [(.var 1)] [(.ite (.op2 .nin (.var 2) (.var 3)) [(.fz [3] (.set 6 (.lc [8] false .lst [(.op2 .ix (.var 1) (.var 2))] [] (.call 44 [(.var 0), (.var 3), (.var 8)])))),
   (.ite (.op2 .isin (.tup [(.cst (.str [119, 111, 110])), (.var 4)]) (.var 6)) [(.setIx (.var 5) (.var 2) (.tup [(.cst (.str [119, 111, 110])), (.var 4)]))] [(.ite (.op2 .eq (.bi .len [(.lc [9] false .lst [(.var 6)] [(.op2 .ne (.op2 .ix (.var 9) (.cst (.int 0))) (.cst (.str [108, 111, 115, 116])))] (.var 9))]) (.cst (.int 0))) [(.setIx (.var 5) (.var 2) (.tup [(.cst (.str [108, 111, 115, 116])), (.var 4)]))] [])])] [])])),
   (.fz [5] (.for_ [2] false .dct [(.var 5)] [(.setIx (.var 3) (.var 2) (.op2 .ix (.var 5) (.var 2)))]))]),
   (.ret (.take 3))]⟩
/-- _law_words: 0 _law_size 1 _law_found 2 _law_layer 3 _law_k 4 _law_longer_ones 5 _law_word_here 6 _law_letter -/
def F_law_words : Fn := ⟨1, 7,
  [(.set 1 (.lst [(.cst (.str []))])),
   (.set 2 (.lst [(.cst (.str []))])),
   (.for_ [3] false .rng [(.var 0)] [(.set 4 (.lst [])),
   (.for_ [5] false .lst [(.var 2)] [(.set 4 (.op2 .add (.var 4) (.lc [6] false .str [(.cst (.str [97, 98, 99, 100]))] [] (.op2 .add (.var 5) (.var 6)))))]),
   (.set 2 (.var 4)),
   (.set 1 (.op2 .add (.var 1) (.var 2)))]),
   (.ret (.var 1))]⟩
/-- _law_first: 0 _law_parts 1 _law_known 2 _law_word_here 3 _law_player 4 _law_stand -/
def F_law_first : Fn := ⟨4, 5,
  [(.set 4 (.tup [(.call 25 [(.var 0), (.var 2)]), (.var 3), (.op2 .ix (.var 0) (.cst (.int 4))), (.op2 .ix (.var 0) (.cst (.int 4)))])),
   (.ret (.op2 .ix (.me .get (.var 1) [(.var 4), (.tup [(.cst (.str [111, 112, 101, 110])), (.cst .non)])]) (.cst (.int 0))))]⟩
/-- _law_unlike: 0 _law_one 1 _law_two 2 _law_size 3 _law_here 4 _law_there 5 _law_word_here 6 _law_player 7 _law_first_here 8 _law_second 9 _law_a 10 _law_b -/
def F_law_unlike : Fn := ⟨3, 11,
  [(.set 3 (.call 83 [(.var 0)])),
   (.set 4 (.call 83 [(.var 1)])),
   (.for_ [5] false .lst [(.call 84 [(.var 2)])] [(.ite (.or [(.op2 .eq (.bi .len [(.var 5)]) (.cst (.int 0))), (.not (.or [(.call 24 [(.var 0), (.slice (.var 5) none (some (.cst (.int (-1)))))]), (.call 24 [(.var 1), (.slice (.var 5) none (some (.cst (.int (-1)))))])]))]) [(.setT [7, 8] (.tup [(.call 24 [(.var 0), (.var 5)]), (.call 24 [(.var 1), (.var 5)])])),
   (.ite (.op2 .ne (.var 7) (.var 8)) [(.ret (.tup [(.var 5), (.cst (.int 0))]))] []),
   (.for_ [6] false .lst [(.lst [(.cst (.int 0)), (.cst (.int 1))])] [(.set 9 (.call 85 [(.var 0), (.var 3), (.var 5), (.var 6)])),
   (.set 10 (.call 85 [(.var 1), (.var 4), (.var 5), (.var 6)])),
   (.ite (.and [(.not (.var 7)), (.op2 .ne (.var 9) (.var 10))]) [(.ret (.tup [(.var 5), (.var 6)]))] [])])] [])]),
   (.ret (.cst .non))]⟩
/-- _law_other: 0 _law_draws 1 _law_parts 2 _law_barred_here 3 _law_word_here 4 _law_at 5 _law_found 6 _law_one -/
def F_law_other : Fn := ⟨2, 7,
  [(.set 2 (.new (.bi .list [(.op2 .ix (.var 1) (.cst (.int 0)))]))),
   (.set 3 (.draw 0 (.cst (.int 4)))),
   (.set 4 (.draw 0 (.bi .len [(.var 2)]))),
   (.ite (.and [(.op2 .eq (.var 3) (.cst (.int 0))), (.op2 .gt (.bi .len [(.var 2)]) (.cst (.int 1)))]) [(.set 2 (.new (.op2 .add (.slice (.var 2) none (some (.var 4))) (.slice (.var 2) (some (.op2 .add (.var 4) (.cst (.int 1)))) none))))] [(.ite (.op2 .eq (.var 3) (.cst (.int 1))) [(.set 2 (.new (.op2 .add (.var 2) (.lst [(.op2 .add (.slice (.op2 .ix (.var 2) (.var 4)) none (some (.cst (.int 3)))) (.cst (.str [97])))]))))] [(.ite (.op2 .eq (.var 3) (.cst (.int 2))) [(.setIx (.var 2) (.var 4) (.callR 19 [true, false, false] [(.var 0), (.cst (.int 2)), (.cst (.int 3))]))] [(.set 2 (.new (.op2 .add (.var 2) (.lst [(.slice (.op2 .add (.cst (.str [98])) (.op2 .ix (.var 2) (.var 4))) none (some (.cst (.int 4))))]))))])])]),
   (.set 5 (.new (.lst []))),
   (.fz [2] (.for_ [6] false .lst [(.var 2)] [(.ite (.op2 .nin (.var 6) (.var 5)) [(.ex (.me .app (.var 5) [(.var 6)]))] [])])),
   (.ret (.op2 .add (.lst [(.bi .tuple [(.slice (.var 5) none (some (.cst (.int 6))))])]) (.slice (.var 1) (some (.cst (.int 1))) none)))]⟩
/-- law: 0 _law_script 1 _law_draws 2 _law_one 3 _law_two 4 _law_due 5 _law_told 6 _law_rows 7 _law_at 8 _law_first_here 9 _law_second 10 _law_less -/
def F_law_k05 : Fn := ⟨1, 11,
  [(.set 2 (.callR 80 [true] [(.var 1)])),
   (.set 3 (.callR 87 [true, false] [(.var 1), (.var 2)])),
   (.setT [8, 9] (.tup [(.call 22 [(.var 2)]), (.call 22 [(.var 3)])])),
   (.set 4 (.call 86 [(.var 2), (.var 3), (.cst (.int 5))])),
   (.set 5 (.call 76 [(.var 8), (.var 9)])),
   (.ite (.or [(.op2 .ne (.call 77 [(.var 8), (.var 9)]) (.op2 .isN (.var 5) (.cst .non))), (.op2 .ne (.call 77 [(.var 9), (.var 8)]) (.op2 .isN (.var 5) (.cst .non)))]) [(.ret (.cst (.bl false)))] []),
   (.ite (.and [(.op2 .notN (.var 4) (.cst .non)), (.not (.call 29 [(.var 5), (.var 4)]))]) [(.ret (.cst (.bl false)))] []),
   (.ite (.and [(.op2 .isN (.var 4) (.cst .non)), (.op2 .notN (.var 5) (.cst .non)), (.op2 .le (.bi .len [(.op2 .ix (.var 5) (.cst (.int 0)))]) (.cst (.int 5)))]) [(.ret (.cst (.bl false)))] []),
   (.set 6 (.new (.lst []))),
   (.for_ [7] false .rng [(.bi .len [(.op2 .ix (.var 2) (.cst (.int 0)))])] [(.set 10 (.op2 .add (.slice (.op2 .ix (.var 2) (.cst (.int 0))) none (some (.var 7))) (.slice (.op2 .ix (.var 2) (.cst (.int 0))) (some (.op2 .add (.var 7) (.cst (.int 1)))) none))),
   (.ite (.and [(.op2 .gt (.bi .len [(.var 10)]) (.cst (.int 0))), (.call 77 [(.var 8), (.call 22 [(.op2 .add (.lst [(.var 10)]) (.slice (.var 2) (some (.cst (.int 1))) none))])])]) [(.ex (.me .app (.var 6) [(.var 7)])),
   (.ite (.op2 .notN (.call 86 [(.var 2), (.op2 .add (.lst [(.var 10)]) (.slice (.var 2) (some (.cst (.int 1))) none)), (.cst (.int 4))]) (.cst .non)) [(.ret (.cst (.bl false)))] [])] [])]),
   (.ret (.op2 .eq (.call 79 [(.var 8)]) (.var 6)))]⟩
/-- small_words: 0 one 1 other -/
def F_small_words : Fn := ⟨0, 2,
  [(.ret (.op2 .add (.bi .list [(.gl 0)]) (.lc2 0 1 (.gl 0) (.gl 0) (.op2 .add (.var 0) (.var 1)))))]⟩
/-- all_changes: 0 lot 1 found 2 word 3 at -/
def F_all_changes : Fn := ⟨1, 4,
  [(.set 1 (.new (.lst []))),
   (.ite (.op2 .lt (.bi .len [(.fld (.var 0) [98, 97, 114, 114, 101, 100])]) (.cst (.int 6))) [(.for_ [2] false .lst [(.bi .sorted [(.call 89 [])])] [(.ite (.op2 .nin (.var 2) (.fld (.var 0) [98, 97, 114, 114, 101, 100])) [(.ex (.me .app (.var 1) [(.tup [(.tup [(.cst (.str [105, 110])), (.var 2)]), (.call 71 [(.var 0), (.op2 .add (.fld (.var 0) [98, 97, 114, 114, 101, 100]) (.tup [(.var 2)]))])])]))] [])])] []),
   (.ite (.op2 .gt (.bi .len [(.fld (.var 0) [98, 97, 114, 114, 101, 100])]) (.cst (.int 1))) [(.for_ [3] false .rng [(.bi .len [(.fld (.var 0) [98, 97, 114, 114, 101, 100])])] [(.ex (.me .app (.var 1) [(.tup [(.tup [(.cst (.str [111, 117, 116])), (.var 3)]), (.call 71 [(.var 0), (.call 78 [(.fld (.var 0) [98, 97, 114, 114, 101, 100]), (.var 3)])])])]))])] []),
   (.ret (.take 1))]⟩
/-- first_of_word: 0 lot 1 word 2 player 3 here -/
def F_first_of_word : Fn := ⟨3, 4,
  [(.set 3 (.call 10 [(.var 0), (.var 1)])),
   (.ret (.ite (.op2 .isN (.var 3) (.cst .non)) (.cst .non) (.call 72 [(.var 0), (.call 38 [(.var 0)]), (.var 3), (.var 2)])))]⟩
/-- changes: 0 lot 1 word 2 player 3 now 4 found 5 way 6 other 7 then -/
def F_changes : Fn := ⟨3, 8,
  [(.ex (.call 11 [(.var 0), (.var 1)])),
   (.set 3 (.call 91 [(.var 0), (.var 1), (.var 2)])),
   (.set 4 (.new (.lst []))),
   (.for_ [5, 6] true .lst [(.call 90 [(.var 0)])] [(.set 7 (.call 91 [(.var 6), (.var 1), (.var 2)])),
   (.ite (.and [(.op2 .notN (.var 7) (.cst .non)), (.op2 .ne (.var 7) (.var 3))]) [(.ex (.me .app (.var 4) [(.tup [(.var 5), (.var 6)])]))] [])]),
   (.ret (.take 4))]⟩
/-- is_forcing: 0 lot 1 values 2 here 3 player 4 stand -/
def F_is_forcing : Fn := ⟨4, 5,
  [(.set 4 (.tup [(.var 2), (.var 3), (.fld (.var 0) [112, 97, 115, 115, 101, 115]), (.fld (.var 0) [112, 97, 115, 115, 101, 115])])),
   (.ret (.and [(.op2 .ne (.op2 .ix (.op2 .ix (.var 1) (.var 4)) (.cst (.int 0))) (.cst (.str [108, 111, 115, 116]))), (.op2 .eq (.bi .len [(.call 41 [(.var 0), (.var 1), (.var 4)])]) (.cst (.int 1)))]))]⟩
/-- forcing: 0 lot 1 player 2 values 3 seen 4 words 5 found 6 word 7 here -/
def F_forcing : Fn := ⟨2, 8,
  [(.set 2 (.call 38 [(.var 0)])),
   (.set 3 (.new (.dct [(.cst (.str []))] [(.cst (.bl true))]))),
   (.set 4 (.lst [(.tup [(.cst (.str [])), (.cst (.str []))])])),
   (.while_ (.var 4) [(.set 5 (.lc [6, 7] true .lst [(.var 4)] [(.call 93 [(.var 0), (.var 2), (.var 7), (.var 1)])] (.var 6))),
   (.ite (.var 5) [(.ret (.call 12 [(.var 5)]))] []),
   (.set 4 (.callR 95 [false, false, true] [(.var 0), (.var 4), (.var 3)]))]),
   (.ret (.lst []))]⟩
/-- longer: 0 lot 1 words 2 seen 3 found 4 word 5 here 6 letter 7 after -/
def F_longer : Fn := ⟨3, 8,
  [(.set 3 (.new (.lst []))),
   (.for_ [4, 5] true .lst [(.var 1)] [(.for_ [6] false .str [(.gl 0)] [(.set 7 (.call 9 [(.var 0), (.var 5), (.var 6)])),
   (.ite (.and [(.op2 .notN (.var 7) (.cst .non)), (.op2 .nin (.var 7) (.var 2))]) [(.ex (.me .app (.var 3) [(.tup [(.op2 .add (.var 4) (.var 6)), (.var 7)])]))] [])])]),
   (.fz [3] (.for_ [4, 5] true .lst [(.var 3)] [(.setIx (.var 2) (.var 5) (.cst (.bl true)))])),
   (.ret (.take 3))]⟩
/-- _law_value: 0 _law_parts 1 _law_word_here 2 _law_player 3 _law_stand -/
def F_law_value : Fn := ⟨3, 4,
  [(.ite (.call 24 [(.var 0), (.var 1)]) [(.ret (.cst .non))] []),
   (.set 3 (.tup [(.call 25 [(.var 0), (.var 1)]), (.var 2), (.op2 .ix (.var 0) (.cst (.int 4))), (.op2 .ix (.var 0) (.cst (.int 4)))])),
   (.ret (.op2 .ix (.me .get (.call 45 [(.var 0)]) [(.var 3), (.tup [(.cst (.str [111, 112, 101, 110])), (.cst .non)])]) (.cst (.int 0))))]⟩
/-- _law_force: 0 _law_parts 1 _law_known 2 _law_word_here 3 _law_player 4 _law_stand 5 _law_now 6 _law_some 7 _law_turn 8 _law_after -/
def F_law_force : Fn := ⟨4, 9,
  [(.set 4 (.tup [(.call 25 [(.var 0), (.var 2)]), (.var 3), (.op2 .ix (.var 0) (.cst (.int 4))), (.op2 .ix (.var 0) (.cst (.int 4)))])),
   (.set 5 (.me .get (.var 1) [(.var 4), (.tup [(.cst (.str [111, 112, 101, 110])), (.cst .non)])])),
   (.set 6 (.lc [7, 8] true .lst [(.call 28 [(.var 0), (.var 4)])] [(.op2 .eq (.call 44 [(.var 0), (.var 1), (.var 8)]) (.var 5))] (.var 8))),
   (.ret (.and [(.op2 .ne (.op2 .ix (.var 5) (.cst (.int 0))) (.cst (.str [108, 111, 115, 116]))), (.op2 .eq (.bi .len [(.var 6)]) (.cst (.int 1)))]))]⟩
/-- _law_shortest: 0 _law_parts 1 _law_player 2 _law_known 3 _law_layer 4 _law_size 5 _law_found 6 _law_more 7 _law_word_here 8 _law_letter -/
def F_law_shortest : Fn := ⟨2, 9,
  [(.set 2 (.call 45 [(.var 0)])),
   (.set 3 (.lst [(.cst (.str []))])),
   (.for_ [4] false .rng [(.cst (.int 6))] [(.set 5 (.lc [7] false .lst [(.var 3)] [(.call 97 [(.var 0), (.var 2), (.var 7), (.var 1)])] (.var 7))),
   (.ite (.op2 .gt (.bi .len [(.var 5)]) (.cst (.int 0))) [(.ret (.var 5))] []),
   (.set 6 (.lst [])),
   (.for_ [7] false .lst [(.var 3)] [(.set 6 (.op2 .add (.var 6) (.lc [8] false .str [(.cst (.str [97, 98, 99, 100]))] [(.not (.call 24 [(.var 0), (.op2 .add (.var 7) (.var 8))]))] (.op2 .add (.var 7) (.var 8)))))]),
   (.set 3 (.var 6))]),
   (.ret (.cst .non))]⟩
/-- law: 0 _law_script 1 _law_draws 2 _law_parts 3 _law_lot 4 _law_word_here 5 _law_player 6 _law_now 7 _law_told 8 _law_due 9 _law_small 10 _law_one 11 _law_new 12 _law_at 13 _law_words 14 _law_found 15 _law_barred_here 16 _law_then 17 _law_row 18 _law_two 19 _law_way 20 _law_other -/
def F_law_k06 : Fn := ⟨1, 21,
  [(.set 2 (.new (.callR 21 [true] [(.var 1)]))),
   (.setIx (.var 2) (.cst (.int 0)) (.slice (.op2 .ix (.var 2) (.cst (.int 0))) none (some (.cst (.int 3))))),
   (.setIx (.var 2) (.cst (.int 4)) (.bi .min [(.op2 .ix (.var 2) (.cst (.int 4))), (.cst (.int 1))])),
   (.fz [2] (.set 3 (.call 22 [(.var 2)]))),
   (.set 4 (.callR 19 [true, false, false] [(.var 1), (.cst (.int 0)), (.cst (.int 3))])),
   (.fz [2] (.ite (.call 24 [(.var 2), (.var 4)]) [(.set 4 (.cst (.str [])))] [])),
   (.set 5 (.draw 1 (.cst (.int 2)))),
   (.fz [2] (.set 6 (.call 96 [(.var 2), (.var 4), (.var 5)]))),
   (.set 7 (.call 92 [(.var 3), (.var 4), (.var 5)])),
   (.set 8 (.new (.lst []))),
   (.set 9 (.bi .list [(.cst (.str [97, 98, 99, 100]))])),
   (.for_ [10] false .str [(.cst (.str [97, 98, 99, 100]))] [(.set 9 (.op2 .add (.var 9) (.lc [18] false .str [(.cst (.str [97, 98, 99, 100]))] [] (.op2 .add (.var 10) (.var 18)))))]),
   (.for_ [11] false .lst [(.bi .sorted [(.var 9)])] [(.set 15 (.op2 .add (.op2 .ix (.var 2) (.cst (.int 0))) (.tup [(.var 11)]))),
   (.set 16 (.var 6)),
   (.ite (.op2 .nin (.var 11) (.op2 .ix (.var 2) (.cst (.int 0)))) [(.set 16 (.call 96 [(.op2 .add (.lst [(.var 15)]) (.slice (.var 2) (some (.cst (.int 1))) none)), (.var 4), (.var 5)]))] []),
   (.ite (.op2 .nin (.var 16) (.lst [(.var 6), (.cst .non)])) [(.ex (.me .app (.var 8) [(.lst [(.tup [(.cst (.str [105, 110])), (.var 11)]), (.var 15)])]))] [])]),
   (.for_ [12] false .rng [(.bi .len [(.op2 .ix (.var 2) (.cst (.int 0)))])] [(.set 15 (.op2 .add (.slice (.op2 .ix (.var 2) (.cst (.int 0))) none (some (.var 12))) (.slice (.op2 .ix (.var 2) (.cst (.int 0))) (some (.op2 .add (.var 12) (.cst (.int 1)))) none))),
   (.set 16 (.var 6)),
   (.ite (.op2 .gt (.bi .len [(.var 15)]) (.cst (.int 0))) [(.set 16 (.call 96 [(.op2 .add (.lst [(.var 15)]) (.slice (.var 2) (some (.cst (.int 1))) none)), (.var 4), (.var 5)]))] []),
   (.ite (.op2 .nin (.var 16) (.lst [(.var 6), (.cst .non)])) [(.ex (.me .app (.var 8) [(.lst [(.tup [(.cst (.str [111, 117, 116])), (.var 12)]), (.var 15)])]))] [])]),
   (.fz [8] (.ite (.op2 .ne (.lc [19, 20] true .lst [(.var 7)] [] (.var 19)) (.lc [17] false .lst [(.var 8)] [] (.op2 .ix (.var 17) (.cst (.int 0))))) [(.ret (.cst (.bl false)))] [])),
   (.for_ [12] false .rng [(.bi .len [(.var 8)])] [(.ite (.not (.op2 .eq (.op2 .ix (.op2 .ix (.var 7) (.var 12)) (.cst (.int 1))) (.call 22 [(.op2 .add (.lst [(.op2 .ix (.op2 .ix (.var 8) (.var 12)) (.cst (.int 1)))]) (.slice (.var 2) (some (.cst (.int 1))) none))]))) [(.ret (.cst (.bl false)))] [])]),
   (.fz [2] (.set 13 (.call 98 [(.var 2), (.var 5)]))),
   (.set 14 (.call 94 [(.var 3), (.var 5)])),
   (.ite (.op2 .isN (.var 13) (.cst .non)) [(.ret (.or [(.op2 .eq (.bi .len [(.var 14)]) (.cst (.int 0))), (.op2 .gt (.bi .len [(.op2 .ix (.var 14) (.cst (.int 0)))]) (.cst (.int 5)))]))] []),
   (.ret (.op2 .eq (.var 14) (.var 13)))]⟩
/-- check_lot: 0 lot -/
def F_check_lot : Fn := ⟨1, 1,
  [(.ite (.or [(.op2 .gt (.fld (.var 0) [112, 97, 115, 115, 101, 115]) (.cst (.int 0))), (.op2 .ne (.fld (.var 0) [114, 117, 108, 101]) (.cst (.str [108, 111, 115, 101, 115]))), (.op2 .ne (.fld (.var 0) [102, 105, 114, 115, 116]) (.fld (.var 0) [115, 101, 99, 111, 110, 100]))]) [(.raise 5 none [])] [])]⟩
/-- nexts: 0 lot 1 here 2 some 3 letter 4 after -/
def F_nexts : Fn := ⟨2, 5,
  [(.set 2 (.lc [3] false .str [(.fld (.var 0) [102, 105, 114, 115, 116])] [] (.call 9 [(.var 0), (.var 1), (.var 3)]))),
   (.ret (.lc [4] false .lst [(.var 2)] [(.op2 .notN (.var 4) (.cst .non))] (.var 4)))]⟩
/-- least_missing: 0 numbers 1 found -/
def F_least_missing : Fn := ⟨1, 2,
  [(.set 1 (.cst (.int 0))),
   (.while_ (.op2 .isin (.var 1) (.var 0)) [(.aug 1 .add (.cst (.int 1)))]),
   (.ret (.var 1))]⟩
/-- worth_at: 0 lot 1 here 2 above 3 known 4 some 5 after -/
def F_worth_at : Fn := ⟨4, 6,
  [(.ite (.op2 .isin (.var 1) (.var 2)) [(.raise 5 none [])] []),
   (.ite (.op2 .nin (.var 1) (.var 3)) [(.set 4 (.lc [5] false .lst [(.call 101 [(.var 0), (.var 1)])] [] (.callR 103 [false, false, false, true] [(.var 0), (.var 5), (.op2 .add (.var 2) (.tup [(.var 1)])), (.var 3)]))),
   (.setIx (.var 3) (.var 1) (.call 102 [(.var 4)]))] []),
   (.ret (.op2 .ix (.var 3) (.var 1)))]⟩
/-- worth: 0 lot 1 word 2 here -/
def F_worth : Fn := ⟨2, 3,
  [(.set 2 (.call 11 [(.var 0), (.var 1)])),
   (.ex (.call 100 [(.var 0)])),
   (.ret (.callR 103 [false, false, false, true] [(.var 0), (.var 2), (.tup []), (.new (.dct0 false))]))]⟩
/-- added: 0 one 1 other 2 found 3 place -/
def F_added : Fn := ⟨2, 4,
  [(.set 2 (.cst (.int 0))),
   (.set 3 (.cst (.int 1))),
   (.while_ (.or [(.var 0), (.var 1)]) [(.ite (.op2 .ne (.op2 .mod (.var 0) (.cst (.int 2))) (.op2 .mod (.var 1) (.cst (.int 2)))) [(.aug 2 .add (.var 3))] []),
   (.setT [0, 1, 3] (.tup [(.op2 .fdiv (.var 0) (.cst (.int 2))), (.op2 .fdiv (.var 1) (.cst (.int 2))), (.op2 .mul (.var 3) (.cst (.int 2)))]))]),
   (.ret (.var 2))]⟩
/-- wins: 0 lot 1 words 2 total 3 word -/
def F_wins : Fn := ⟨2, 4,
  [(.ex (.call 100 [(.var 0)])),
   (.set 2 (.cst (.int 0))),
   (.for_ [3] false .lst [(.var 1)] [(.set 2 (.call 105 [(.var 2), (.call 104 [(.var 0), (.var 3)])]))]),
   (.ret (.op2 .gt (.var 2) (.cst (.int 0))))]⟩
/-- _law_next: 0 _law_parts 1 _law_here 2 _law_found 3 _law_letter -/
def F_law_next : Fn := ⟨2, 4,
  [(.set 2 (.new (.lst []))),
   (.for_ [3] false .str [(.op2 .ix (.var 0) (.cst (.int 1)))] [(.ite (.not (.call 23 [(.var 0), (.op2 .add (.var 1) (.var 3))])) [(.ex (.me .app (.var 2) [(.call 25 [(.var 0), (.op2 .add (.var 1) (.var 3))])]))] [])]),
   (.ret (.take 2))]⟩
/-- _law_ever: 0 _law_parts 1 _law_here 2 _law_above 3 _law_one -/
def F_law_ever : Fn := ⟨3, 4,
  [(.ite (.op2 .isin (.var 1) (.var 2)) [(.ret (.cst (.bl true)))] []),
   (.ret (.op2 .gt (.bi .len [(.lc [3] false .lst [(.call 107 [(.var 0), (.var 1)])] [(.call 108 [(.var 0), (.var 3), (.op2 .add (.var 2) (.lst [(.var 1)]))])] (.var 3))]) (.cst (.int 0))))]⟩
/-- _law_worth: 0 _law_parts 1 _law_here 2 _law_some 3 _law_found 4 _law_one -/
def F_law_worth : Fn := ⟨2, 5,
  [(.set 2 (.lc [4] false .lst [(.call 107 [(.var 0), (.var 1)])] [] (.call 109 [(.var 0), (.var 4)]))),
   (.set 3 (.cst (.int 0))),
   (.while_ (.op2 .isin (.var 3) (.var 2)) [(.set 3 (.op2 .add (.var 3) (.cst (.int 1))))]),
   (.ret (.var 3))]⟩
/-- _law_wins: 0 _law_parts 1 _law_rows 2 _law_seen 3 _law_key 4 _law_found 5 _law_at 6 _law_one 7 _law_then -/
def F_law_wins : Fn := ⟨3, 8,
  [(.set 3 (.bi .tuple [(.var 1)])),
   (.ite (.op2 .nin (.var 3) (.var 2)) [(.set 4 (.cst (.bl false))),
   (.for_ [5] false .rng [(.bi .len [(.var 1)])] [(.for_ [6] false .lst [(.call 107 [(.var 0), (.op2 .ix (.var 1) (.var 5))])] [(.set 7 (.op2 .add (.op2 .add (.slice (.var 1) none (some (.var 5))) (.lst [(.var 6)])) (.slice (.var 1) (some (.op2 .add (.var 5) (.cst (.int 1)))) none))),
   (.ite (.and [(.not (.var 4)), (.not (.callR 110 [false, false, true] [(.var 0), (.var 7), (.var 2)]))]) [(.set 4 (.cst (.bl true)))] [])])]),
   (.setIx (.var 2) (.var 3) (.var 4))] []),
   (.ret (.op2 .ix (.var 2) (.var 3)))]⟩
/-- _law_told: 0 _law_lot 1 _law_word_here 2 _law_told_here -/
def F_law_told_k07 : Fn := ⟨2, 3,
  [(.set 2 (.cst .non)),
   (.try_ [(.set 2 (.call 104 [(.var 0), (.var 1)]))] [(.c [(0, false), (1, false), (2, false), (3, false), (5, true)] 2 (.str [110, 111, 110, 101]))]),
   (.ret (.var 2))]⟩
/-- law: 0 _law_script 1 _law_draws 2 _law_letters_here 3 _law_rows 4 _law_barred_here 5 _law_parts 6 _law_lot 7 _law_words 8 _law_k 9 _law_ever_here 10 _law_word_here 11 _law_some 12 _law_odd 13 _law_due -/
def F_law_k07 : Fn := ⟨1, 14,
  [(.set 2 (.op2 .ix (.lst [(.cst (.str [97, 98])), (.cst (.str [97, 98, 99])), (.cst (.str [97])), (.cst (.str [98, 99]))]) (.draw 1 (.cst (.int 4))))),
   (.set 3 (.lst [(.tup [(.cst (.str [97, 97])), (.cst (.str [98, 98])), (.cst (.str [97, 98, 97, 98]))]), (.tup [(.cst (.str [97, 97, 97])), (.cst (.str [98]))]), (.tup [(.cst (.str [97, 97, 98])), (.cst (.str [98, 98, 97])), (.cst (.str [98, 97, 98])), (.cst (.str [97, 97, 97])), (.cst (.str [98, 98, 98]))]), (.tup [(.cst (.str [97, 98])), (.cst (.str [98, 97])), (.cst (.str [97, 97, 97, 97])), (.cst (.str [98, 98, 98, 98]))])])),
   (.set 3 (.op2 .add (.var 3) (.lst [(.tup [(.cst (.str [99])), (.cst (.str [97, 97])), (.cst (.str [98, 97, 98])), (.cst (.str [98, 98, 98]))]), (.tup [(.cst (.str [97, 97])), (.cst (.str [97, 98])), (.cst (.str [98, 98])), (.cst (.str [99, 97])), (.cst (.str [99, 99]))]), (.tup [(.cst (.str [97, 98, 99])), (.cst (.str [97, 97])), (.cst (.str [98, 98])), (.cst (.str [99, 99])), (.cst (.str [98, 97]))])]))),
   (.set 4 (.op2 .ix (.var 3) (.draw 1 (.bi .len [(.var 3)])))),
   (.ite (.op2 .eq (.draw 1 (.cst (.int 3))) (.cst (.int 0))) [(.set 4 (.callR 20 [true, false] [(.var 1), (.cst (.int 6))]))] []),
   (.set 5 (.lst [(.var 4), (.var 2), (.var 2), (.cst (.str [108, 111, 115, 101, 115])), (.cst (.int 0))])),
   (.set 6 (.call 22 [(.var 5)])),
   (.set 7 (.new (.lst []))),
   (.for_ [8] false .rng [(.cst (.int 3))] [(.set 10 (.callR 19 [true, false, false] [(.var 1), (.cst (.int 0)), (.cst (.int 3))])),
   (.ite (.not (.call 24 [(.var 5), (.var 10)])) [(.ex (.me .app (.var 7) [(.var 10)]))] [])]),
   (.set 9 (.cst (.bl false))),
   (.fz [7] (.for_ [10] false .lst [(.var 7)] [(.set 13 (.cst (.str [110, 111, 110, 101]))),
   (.ite (.call 108 [(.var 5), (.call 25 [(.var 5), (.var 10)]), (.lst [])]) [(.set 9 (.cst (.bl true)))] [(.set 13 (.call 109 [(.var 5), (.call 25 [(.var 5), (.var 10)])]))]),
   (.ite (.op2 .ne (.call 111 [(.var 6), (.var 10)]) (.var 13)) [(.ret (.cst (.bl false)))] [])])),
   (.fz [7] (.set 11 (.lc [10] false .lst [(.var 7)] [] (.call 25 [(.var 5), (.var 10)])))),
   (.fz [7] (.ite (.and [(.not (.var 9)), (.op2 .ne (.call 106 [(.var 6), (.var 7)]) (.callR 110 [false, false, true] [(.var 5), (.var 11), (.new (.dct0 false))]))]) [(.ret (.cst (.bl false)))] [])),
   (.set 12 (.lst [(.lst [(.var 4), (.cst (.str [97, 98])), (.cst (.str [97, 99])), (.cst (.str [108, 111, 115, 101, 115])), (.cst (.int 0))]), (.lst [(.var 4), (.cst (.str [97, 98])), (.cst (.str [97, 98])), (.cst (.str [119, 105, 110, 115])), (.cst (.int 0))]), (.lst [(.var 4), (.cst (.str [97, 98])), (.cst (.str [97, 98])), (.cst (.str [108, 111, 115, 101, 115])), (.cst (.int 1))])])),
   (.ret (.op2 .eq (.call 111 [(.call 22 [(.op2 .ix (.var 12) (.draw 1 (.cst (.int 3))))]), (.cst (.str []))]) (.cst (.str [110, 111, 110, 101]))))]⟩
/-- Led.undo: 0 self -/
def F_Led_undo_k08 : Fn := ⟨1, 1,
  [(.ite (.not (.fld (.var 0) [100, 111, 110, 101])) [(.raise 8 none [])] []),
   (.ex (.me .pop (.fld (.var 0) [100, 111, 110, 101]) []))]⟩
/-- _law_like: 0 _law_actual 1 _law_due_here 2 _law_k 3 _law_key -/
def F_law_like_k08 : Fn := ⟨2, 4,
  [(.ite (.bi .isi [(.var 1), (.ty 6)]) [(.ite (.or [(.not (.bi .isi [(.var 0), (.ty 6)])), (.op2 .ne (.bi .list [(.var 0)]) (.bi .list [(.var 1)]))]) [(.ret (.cst (.bl false)))] []),
   (.ret (.bi .all [(.lc [3] false .dct [(.var 1)] [] (.call 114 [(.op2 .ix (.var 0) (.var 3)), (.op2 .ix (.var 1) (.var 3))]))]))] []),
   (.ite (.op2 .isN (.var 1) (.cst .non)) [(.ret (.op2 .isN (.var 0) (.cst .non)))] []),
   (.ite (.bi .isi [(.var 1), (.ty 1)]) [(.ret (.and [(.bi .isi [(.var 0), (.ty 1)]), (.op2 .eq (.var 0) (.var 1))]))] []),
   (.ite (.bi .isi [(.var 1), (.ty 2)]) [(.ret (.and [(.bi .isi [(.var 0), (.ty 2)]), (.not (.bi .isi [(.var 0), (.ty 1)])), (.op2 .eq (.var 0) (.var 1))]))] []),
   (.ite (.bi .isi [(.var 1), (.ty 3)]) [(.ret (.and [(.bi .isi [(.var 0), (.ty 3)]), (.op2 .eq (.var 0) (.var 1))]))] []),
   (.ite (.bi .isi [(.var 1), (.ty 4)]) [(.ite (.or [(.not (.bi .isi [(.var 0), (.ty 4)])), (.op2 .ne (.bi .len [(.var 0)]) (.bi .len [(.var 1)]))]) [(.ret (.cst (.bl false)))] [])] [(.ite (.or [(.not (.bi .isi [(.var 0), (.ty 5)])), (.op2 .ne (.bi .len [(.var 0)]) (.bi .len [(.var 1)]))]) [(.ret (.cst (.bl false)))] [])]),
   (.for_ [2] false .rng [(.bi .len [(.var 1)])] [(.ite (.not (.call 114 [(.op2 .ix (.var 0) (.var 2)), (.op2 .ix (.var 1) (.var 2))])) [(.ret (.cst (.bl false)))] [])]),
   (.ret (.cst (.bl true)))]⟩
/-- _law_try: 0 _law_led 1 _law_what 2 _law_told -/
def F_law_try : Fn := ⟨2, 3,
  [(.set 2 (.cst .non)),
   (.try_ [(.ite (.op2 .eq (.var 1) (.cst (.str [117, 110, 100, 111]))) [(.ex (.mc (.var 0) 113 []))] [(.ite (.op2 .eq (.var 1) (.cst (.str [98, 101, 115, 116]))) [(.ex (.mc (.var 0) 61 []))] [(.ex (.mc (.var 0) 56 [(.var 1)]))])])] [(.c [(0, false), (1, false), (2, false), (3, false), (6, true), (7, false), (8, false)] 2 (.str [98, 97, 100])), (.c [(0, false), (1, false), (2, false), (3, false), (6, false), (7, true), (8, false)] 2 (.str [111, 118, 101, 114])), (.c [(0, false), (1, false), (2, false), (3, false), (6, false), (7, false), (8, true)] 2 (.str [110, 111, 116, 104, 105, 110, 103]))]),
   (.ret (.var 2))]⟩
/-- _law_play: 0 _law_parts 1 _law_word_here 2 _law_player 3 _law_row 4 _law_left 5 _law_over 6 _law_what 7 _law_winner -/
def F_law_play : Fn := ⟨4, 8,
  [(.set 4 (.new (.lst [(.op2 .ix (.var 0) (.cst (.int 4))), (.op2 .ix (.var 0) (.cst (.int 4)))]))),
   (.set 5 (.cst (.bl false))),
   (.for_ [6] false .lst [(.var 3)] [(.ite (.op2 .eq (.var 6) (.cst (.str [112, 97, 115, 115]))) [(.setIx (.var 4) (.var 2) (.op2 .sub (.op2 .ix (.var 4) (.var 2)) (.cst (.int 1))))] [(.set 1 (.op2 .add (.var 1) (.var 6))),
   (.set 5 (.call 23 [(.var 0), (.var 1)]))]),
   (.set 2 (.op2 .sub (.cst (.int 1)) (.var 2)))]),
   (.set 7 (.cst .non)),
   (.ite (.var 5) [(.set 7 (.op2 .ix (.lst [(.var 2), (.op2 .sub (.cst (.int 1)) (.var 2))]) (.bi .int [(.op2 .eq (.op2 .ix (.var 0) (.cst (.int 3))) (.cst (.str [119, 105, 110, 115])))])))] []),
   (.ret (.lst [(.var 1), (.var 2), (.bi .tuple [(.var 4)]), (.var 7)]))]⟩
/-- _law_due: 0 _law_parts 1 _law_stand 2 _law_row 3 _law_what 4 _law_fits 5 _law_word_here 6 _law_player 7 _law_left 8 _law_winner -/
def F_law_due : Fn := ⟨4, 9,
  [(.setT [5, 6, 7, 8] (.var 1)),
   (.ite (.op2 .eq (.var 3) (.cst (.str [117, 110, 100, 111]))) [(.ret (.op2 .ix (.lst [(.cst .non), (.cst (.str [110, 111, 116, 104, 105, 110, 103]))]) (.bi .int [(.op2 .eq (.bi .len [(.var 2)]) (.cst (.int 0)))])))] []),
   (.ite (.op2 .notN (.var 8) (.cst .non)) [(.ret (.cst (.str [111, 118, 101, 114])))] []),
   (.ite (.op2 .eq (.var 3) (.cst (.str [98, 101, 115, 116]))) [(.ret (.cst .non))] []),
   (.set 4 (.or [(.op2 .isin (.var 3) (.bi .list [(.op2 .ix (.var 0) (.op2 .add (.cst (.int 1)) (.var 6)))])), (.and [(.op2 .eq (.var 3) (.cst (.str [112, 97, 115, 115]))), (.op2 .gt (.op2 .ix (.var 7) (.var 6)) (.cst (.int 0)))])])),
   (.ret (.op2 .ix (.lst [(.cst (.str [98, 97, 100])), (.cst .non)]) (.bi .int [(.var 4)])))]⟩
/-- law: 0 _law_script 1 _law_draws 2 _law_parts 3 _law_lot 4 _law_begin_here 5 _law_starter 6 _law_led 7 _law_row 8 _law_k 9 _law_other 10 _law_what 11 _law_due_here 12 _law_word_here 13 _law_player 14 _law_left 15 _law_winner -/
def F_law_k08 : Fn := ⟨1, 16,
  [(.set 2 (.callR 21 [true] [(.var 1)])),
   (.set 3 (.call 22 [(.var 2)])),
   (.set 4 (.callR 19 [true, false, false] [(.var 1), (.cst (.int 0)), (.cst (.int 3))])),
   (.ite (.call 24 [(.var 2), (.var 4)]) [(.set 4 (.cst (.str [])))] []),
   (.set 5 (.draw 1 (.cst (.int 2)))),
   (.set 6 (.mk 1 [(.var 3), (.var 4), (.var 5)])),
   (.set 7 (.lst [])),
   (.for_ [8] false .rng [(.cst (.int 20))] [(.set 10 (.op2 .ix (.lst [(.cst (.str [97])), (.cst (.str [98])), (.cst (.str [99])), (.cst (.str [100])), (.cst (.str [112, 97, 115, 115])), (.cst (.str [117, 110, 100, 111])), (.cst (.str [98, 101, 115, 116])), (.cst (.str [101])), (.cst (.str [97, 98]))]) (.draw 1 (.cst (.int 9))))),
   (.set 11 (.call 117 [(.var 2), (.call 116 [(.var 2), (.var 4), (.var 5), (.var 7)]), (.var 7), (.var 10)])),
   (.ite (.op2 .ne (.call 115 [(.var 6), (.var 10)]) (.var 11)) [(.ret (.cst (.bl false)))] []),
   (.ite (.and [(.op2 .isN (.var 11) (.cst .non)), (.op2 .eq (.var 10) (.cst (.str [117, 110, 100, 111])))]) [(.set 7 (.slice (.var 7) none (some (.cst (.int (-1))))))] [(.ite (.and [(.op2 .isN (.var 11) (.cst .non)), (.op2 .ne (.var 10) (.cst (.str [98, 101, 115, 116])))]) [(.set 7 (.op2 .add (.var 7) (.lst [(.var 10)])))] [])]),
   (.setT [12, 13, 14, 15] (.call 116 [(.var 2), (.var 4), (.var 5), (.var 7)])),
   (.ite (.or [(.op2 .ne (.mc (.var 6) 57 []) (.var 12)), (.op2 .ne (.mc (.var 6) 58 []) (.var 13)), (.op2 .ne (.mc (.var 6) 59 []) (.var 14)), (.op2 .ne (.bi .len [(.var 6)]) (.bi .len [(.var 7)]))]) [(.ret (.cst (.bl false)))] []),
   (.ite (.not (.call 114 [(.mc (.var 6) 60 []), (.var 15)])) [(.ret (.cst (.bl false)))] [])]),
   (.set 9 (.mk 1 [(.var 3), (.var 4), (.var 5)])),
   (.for_ [10] false .lst [(.var 7)] [(.ex (.mc (.var 9) 56 [(.var 10)]))]),
   (.ret (.and [(.op2 .eq (.var 6) (.var 9)), (.not (.op2 .eq (.var 6) (.mk 1 [(.var 3), (.var 4), (.op2 .sub (.cst (.int 1)) (.var 5))]))), (.not (.op2 .eq (.var 6) (.cst (.int 7))))]))]⟩
/-- BadLine.__init__: 0 self 1 line -/
def F_BadLine_init : Fn := ⟨2, 2,
  [(.setFld 9 (.var 0) [108, 105, 110, 101] (.var 1))]⟩
/-- write: 0 lot 1 lines -/
def F_write : Fn := ⟨1, 2,
  [(.set 1 (.lst [(.me .join (.cst (.str [32])) [(.op2 .add (.tup [(.cst (.str [98, 97, 114, 114, 101, 100]))]) (.fld (.var 0) [98, 97, 114, 114, 101, 100]))]), (.fs [([108, 101, 116, 116, 101, 114, 115, 32], (.fld (.var 0) [102, 105, 114, 115, 116])), ([32], (.fld (.var 0) [115, 101, 99, 111, 110, 100]))] []), (.fs [([], (.fld (.var 0) [114, 117, 108, 101])), ([32], (.fld (.var 0) [112, 97, 115, 115, 101, 115]))] [])])),
   (.ret (.me .join (.cst (.str [10])) [(.var 1)]))]⟩
/-- barred_in: 0 line 1 words -/
def F_barred_in : Fn := ⟨1, 2,
  [(.set 1 (.me .split (.var 0) [(.cst (.str [32]))])),
   (.ret (.ite (.and [(.op2 .eq (.op2 .ix (.var 1) (.cst (.int 0))) (.cst (.str [98, 97, 114, 114, 101, 100]))), (.call 2 [(.bi .tuple [(.slice (.var 1) (some (.cst (.int 1))) none)])])]) (.bi .tuple [(.slice (.var 1) (some (.cst (.int 1))) none)]) (.cst .non)))]⟩
/-- letters_in: 0 line 1 words -/
def F_letters_in : Fn := ⟨1, 2,
  [(.set 1 (.me .split (.var 0) [(.cst (.str [32]))])),
   (.ite (.or [(.op2 .ne (.bi .len [(.var 1)]) (.cst (.int 3))), (.op2 .ne (.op2 .ix (.var 1) (.cst (.int 0))) (.cst (.str [108, 101, 116, 116, 101, 114, 115]))), (.not (.call 1 [(.op2 .ix (.var 1) (.cst (.int 1)))])), (.not (.call 1 [(.op2 .ix (.var 1) (.cst (.int 2)))]))]) [(.ret (.cst .non))] []),
   (.ret (.tup [(.op2 .ix (.var 1) (.cst (.int 1))), (.op2 .ix (.var 1) (.cst (.int 2)))]))]⟩
/-- rule_in: 0 line 1 words -/
def F_rule_in : Fn := ⟨1, 2,
  [(.set 1 (.me .split (.var 0) [(.cst (.str [32]))])),
   (.ite (.or [(.op2 .ne (.bi .len [(.var 1)]) (.cst (.int 2))), (.op2 .nin (.op2 .ix (.var 1) (.cst (.int 0))) (.gl 1)), (.op2 .nin (.op2 .ix (.var 1) (.cst (.int 1))) (.gl 3))]) [(.ret (.cst .non))] []),
   (.ret (.tup [(.op2 .ix (.var 1) (.cst (.int 0))), (.op2 .ix (.gl 3) (.op2 .ix (.var 1) (.cst (.int 1))))]))]⟩
/-- part_in: 0 at 1 line -/
def F_part_in : Fn := ⟨2, 2,
  [(.ite (.op2 .eq (.var 0) (.cst (.int 0))) [(.ret (.call 121 [(.var 1)]))] []),
   (.ret (.ite (.op2 .eq (.var 0) (.cst (.int 1))) (.call 122 [(.var 1)]) (.call 123 [(.var 1)])))]⟩
/-- read: 0 text 1 lines 2 parts 3 at 4 part -/
def F_read : Fn := ⟨1, 5,
  [(.set 1 (.me .split (.var 0) [(.cst (.str [10]))])),
   (.set 2 (.new (.lst []))),
   (.for_ [3] false .rng [(.cst (.int 3))] [(.set 4 (.ite (.op2 .lt (.var 3) (.bi .len [(.var 1)])) (.call 124 [(.var 3), (.op2 .ix (.var 1) (.var 3))]) (.cst .non))),
   (.ite (.op2 .isN (.var 4) (.cst .non)) [(.raise 9 (some [108, 105, 110, 101]) [(.op2 .add (.var 3) (.cst (.int 1)))])] []),
   (.ex (.me .app (.var 2) [(.var 4)]))]),
   (.ite (.op2 .gt (.bi .len [(.var 1)]) (.cst (.int 3))) [(.raise 9 (some [108, 105, 110, 101]) [(.cst (.int 4))])] []),
   (.ret (.mk 0 [(.op2 .ix (.var 2) (.cst (.int 0))), (.op2 .ix (.op2 .ix (.var 2) (.cst (.int 1))) (.cst (.int 0))), (.op2 .ix (.op2 .ix (.var 2) (.cst (.int 1))) (.cst (.int 1))), (.op2 .ix (.op2 .ix (.var 2) (.cst (.int 2))) (.cst (.int 0))), (.op2 .ix (.op2 .ix (.var 2) (.cst (.int 2))) (.cst (.int 1)))]))]⟩
/-- law: 0 _law_script 1 _law_draws 2 _law_parts 3 _law_lot 4 _law_lines 5 _law_text 6 _law_again -/
def F_law_k09 : Fn := ⟨1, 7,
  [(.set 2 (.callR 21 [true] [(.var 1)])),
   (.set 3 (.call 22 [(.var 2)])),
   (.set 4 (.new (.lst [(.me .join (.cst (.str [32])) [(.op2 .add (.lst [(.cst (.str [98, 97, 114, 114, 101, 100]))]) (.bi .list [(.op2 .ix (.var 2) (.cst (.int 0)))]))]), (.op2 .add (.op2 .add (.op2 .add (.cst (.str [108, 101, 116, 116, 101, 114, 115, 32])) (.op2 .ix (.var 2) (.cst (.int 1)))) (.cst (.str [32]))) (.op2 .ix (.var 2) (.cst (.int 2))))]))),
   (.ex (.me .app (.var 4) [(.op2 .add (.op2 .add (.op2 .ix (.var 2) (.cst (.int 3))) (.cst (.str [32]))) (.bi .str [(.op2 .ix (.var 2) (.cst (.int 4)))]))])),
   (.set 5 (.me .join (.cst (.str [10])) [(.var 4)])),
   (.set 6 (.call 125 [(.var 5)])),
   (.ret (.and [(.op2 .eq (.call 120 [(.var 3)]) (.var 5)), (.op2 .eq (.var 6) (.var 3)), (.op2 .eq (.fld (.var 6) [98, 97, 114, 114, 101, 100]) (.op2 .ix (.var 2) (.cst (.int 0)))), (.op2 .eq (.fld (.var 6) [112, 97, 115, 115, 101, 115]) (.op2 .ix (.var 2) (.cst (.int 4))))]))]⟩
/-- _law_told: 0 _law_text 1 _law_told_here 2 e -/
def F_law_told_k10 : Fn := ⟨1, 3,
  [(.set 1 (.cst .non)),
   (.try_ [(.ex (.call 125 [(.var 0)]))] [(.f [(0, false), (1, false), (9, true)] 2 1 [108, 105, 110, 101])]),
   (.ret (.var 1))]⟩
/-- law: 0 _law_script 1 _law_draws 2 _law_lines 3 _law_first 4 _law_second 5 _law_third 6 _law_at 7 _law_rows 8 _law_spoilt 9 _law_size -/
def F_law_k10 : Fn := ⟨1, 10,
  [(.set 2 (.lst [(.cst (.str [98, 97, 114, 114, 101, 100, 32, 97, 98, 32, 98, 97, 32, 99])), (.cst (.str [108, 101, 116, 116, 101, 114, 115, 32, 97, 98, 99, 32, 97, 100])), (.cst (.str [119, 105, 110, 115, 32, 50]))])),
   (.ite (.op2 .notN (.call 127 [(.me .join (.cst (.str [10])) [(.var 2)])]) (.cst .non)) [(.ret (.cst (.bl false)))] []),
   (.set 3 (.lst [(.cst (.str [])), (.cst (.str [98, 97, 114, 114, 101, 100])), (.cst (.str [98, 97, 114, 114, 101, 100, 32])), (.cst (.str [98, 97, 114, 114, 101, 100, 32, 97, 98, 32, 97, 98])), (.cst (.str [98, 97, 114, 114, 101, 100, 32, 97, 98, 99, 100, 97])), (.cst (.str [98, 97, 114, 114, 101, 100, 32, 97, 101])), (.cst (.str [66, 97, 114, 114, 101, 100, 32, 97, 98])), (.cst (.str [98, 97, 114, 114, 101, 100, 32, 32, 97, 98])), (.cst (.str [97, 98, 32, 98, 97]))])),
   (.set 3 (.op2 .add (.var 3) (.lst [(.cst (.str [98, 97, 114, 114, 101, 100, 32, 97, 98, 32])), (.cst (.str [32, 98, 97, 114, 114, 101, 100, 32, 97, 98])), (.cst (.str [98, 97, 114, 114, 101, 100, 32, 97, 32, 98, 32, 99, 32, 100, 32, 97, 97, 32, 98, 98, 32, 99, 99]))]))),
   (.set 4 (.lst [(.cst (.str [])), (.cst (.str [108, 101, 116, 116, 101, 114, 115, 32, 97, 98, 99])), (.cst (.str [108, 101, 116, 116, 101, 114, 115, 32, 97, 98, 99, 32, 97, 100, 32, 98])), (.cst (.str [108, 101, 116, 116, 101, 114, 115, 32, 98, 97, 32, 97, 100])), (.cst (.str [108, 101, 116, 116, 101, 114, 115, 32, 32, 97, 100])), (.cst (.str [108, 101, 116, 116, 101, 114, 115, 32, 97, 97, 32, 98]))])),
   (.set 4 (.op2 .add (.var 4) (.lst [(.cst (.str [97, 98, 99, 32, 97, 100])), (.cst (.str [108, 101, 116, 116, 101, 114, 115, 32, 97, 98, 99, 32, 97, 101]))]))),
   (.set 5 (.lst [(.cst (.str [])), (.cst (.str [119, 105, 110, 115])), (.cst (.str [119, 105, 110, 115, 32, 51])), (.cst (.str [100, 114, 97, 119, 115, 32, 49])), (.cst (.str [108, 111, 115, 101, 115, 32, 48, 49])), (.cst (.str [108, 111, 115, 101, 115, 32, 45, 49])), (.cst (.str [76, 111, 115, 101, 115, 32, 49])), (.cst (.str [108, 111, 115, 101, 115, 32, 49, 32]))])),
   (.set 5 (.op2 .add (.var 5) (.lst [(.cst (.str [108, 111, 115, 101, 115, 32, 32, 49])), (.cst (.str [108, 111, 115, 101, 115, 32, 49, 32, 49])), (.cst (.str [48]))]))),
   (.set 6 (.draw 1 (.cst (.int 3)))),
   (.set 7 (.op2 .ix (.lst [(.var 3), (.var 4), (.var 5)]) (.var 6))),
   (.set 8 (.op2 .add (.op2 .add (.slice (.var 2) none (some (.var 6))) (.lst [(.op2 .ix (.var 7) (.draw 1 (.bi .len [(.var 7)])))])) (.slice (.var 2) (some (.op2 .add (.var 6) (.cst (.int 1)))) none))),
   (.ite (.op2 .ne (.call 127 [(.me .join (.cst (.str [10])) [(.var 8)])]) (.op2 .add (.var 6) (.cst (.int 1)))) [(.ret (.cst (.bl false)))] []),
   (.set 9 (.draw 1 (.cst (.int 3)))),
   (.ite (.op2 .ne (.call 127 [(.me .join (.cst (.str [10])) [(.slice (.var 2) none (some (.var 9)))])]) (.op2 .ix (.lst [(.cst (.int 1)), (.cst (.int 2)), (.cst (.int 3))]) (.var 9))) [(.ret (.cst (.bl false)))] []),
   (.ret (.op2 .eq (.call 127 [(.me .join (.cst (.str [10])) [(.op2 .add (.var 2) (.lst [(.op2 .ix (.lst [(.cst (.str [])), (.cst (.str [119, 105, 110, 115, 32, 50])), (.cst (.str [120]))]) (.draw 1 (.cst (.int 3))))]))])]) (.cst (.int 4))))]⟩
/-- Led.winner: 0 self -/
def F_Led_winner_k11 : Fn := ⟨1, 1,
  [(.ex (.call 52 [(.cst (.int 0))]))]⟩
/-- _law_word_call: 0 _law_lot 1 _law_thing 2 _law_word -/
def F_law_word_call : Fn := ⟨3, 3,
  [(.ite (.op2 .eq (.var 1) (.cst (.int 0))) [(.ex (.call 11 [(.var 0), (.var 2)]))] [(.ite (.op2 .eq (.var 1) (.cst (.int 1))) [(.ex (.call 15 [(.var 0), (.var 2), (.cst (.int 0))]))] [(.ite (.op2 .eq (.var 1) (.cst (.int 2))) [(.ex (.call 92 [(.var 0), (.var 2), (.cst (.int 0))]))] [(.ite (.op2 .eq (.var 1) (.cst (.int 3))) [(.ex (.call 104 [(.var 0), (.var 2)]))] [(.ite (.op2 .eq (.var 1) (.cst (.int 4))) [(.ex (.call 106 [(.var 0), (.lst [(.cst (.str [])), (.var 2)])]))] [(.ex (.mk 1 [(.var 0), (.var 2), (.cst (.int 1))]))])])])])])]⟩
/-- _law_call: 0 _law_what 1 _law_thing 2 _law_lot 3 _law_led -/
def F_law_call : Fn := ⟨2, 4,
  [(.set 2 (.mk 3 [(.tup [(.cst (.str [97, 98]))]), (.cst (.str [97, 98])), (.cst (.str [97, 98]))])),
   (.ite (.op2 .eq (.var 0) (.cst (.int 0))) [(.ite (.op2 .lt (.var 1) (.cst (.int 2))) [(.ex (.call 77 [(.var 2), (.mk 3 [(.tup [(.cst (.str [97, 98]))]), (.cst (.str [97, 98])), (.cst (.str [97, 98, 99]))])]))] [(.ite (.op2 .lt (.var 1) (.cst (.int 4))) [(.ex (.call 76 [(.var 2), (.mk 4 [(.tup [(.cst (.str [97, 98]))]), (.cst (.str [97, 98])), (.cst (.str [97, 98])), (.cst (.str [119, 105, 110, 115]))])]))] [(.ex (.mk 0 [(.tup [(.cst (.str [97, 98]))]), (.cst (.str [97, 98])), (.cst (.str [97, 98])), (.cst (.str [108, 111, 115, 101, 115])), (.cst (.int 3))]))])])] [(.ite (.op2 .eq (.var 0) (.cst (.int 1))) [(.ex (.call 130 [(.mk 3 [(.tup [(.cst (.str [97, 97])), (.cst (.str [98]))]), (.cst (.str [97, 98])), (.cst (.str [97, 98]))]), (.var 1), (.cst (.str [97, 98, 101]))]))] [(.ite (.op2 .eq (.var 0) (.cst (.int 2))) [(.ex (.call 130 [(.mk 3 [(.tup [(.cst (.str [97, 97])), (.cst (.str [98]))]), (.cst (.str [97, 98])), (.cst (.str [97, 98]))]), (.var 1), (.cst (.str [97, 97, 98]))]))] [(.ite (.op2 .eq (.var 0) (.cst (.int 3))) [(.ite (.op2 .eq (.op2 .mod (.var 1) (.cst (.int 3))) (.cst (.int 0))) [(.ex (.call 40 [(.var 2), (.tup [(.cst (.str [98])), (.cst (.int 0)), (.cst (.int 0)), (.cst (.int 0))])]))] [(.ite (.op2 .eq (.op2 .mod (.var 1) (.cst (.int 3))) (.cst (.int 1))) [(.ex (.call 42 [(.var 2), (.cst .non)]))] [(.ex (.call 53 [(.var 2), (.tup [(.cst (.str [])), (.cst (.int 0)), (.cst (.int 1)), (.cst (.int 0))]), (.cst (.int 3))]))])])] [(.ite (.op2 .eq (.var 0) (.cst (.int 4))) [(.ex (.call 104 [(.mk 0 [(.tup [(.cst (.str [97, 98]))]), (.cst (.str [97, 98])), (.cst (.str [97, 98])), (.cst (.str [108, 111, 115, 101, 115])), (.op2 .mod (.var 1) (.cst (.int 2)))]), (.cst (.str []))]))] [(.ite (.op2 .eq (.var 0) (.cst (.int 5))) [(.ex (.mc (.mk 1 [(.var 2), (.cst (.str [])), (.cst (.int 0))]) 56 [(.op2 .ix (.lst [(.cst (.str [99])), (.cst (.str [112, 97, 115, 115])), (.cst .non), (.cst (.str [97, 98])), (.cst (.int 1)), (.cst (.str []))]) (.var 1))]))] [(.ite (.op2 .eq (.var 0) (.cst (.int 6))) [(.set 3 (.mk 1 [(.var 2), (.cst (.str [97])), (.cst (.int 0))])),
   (.ex (.mc (.var 3) 56 [(.cst (.str [98]))])),
   (.ite (.op2 .eq (.op2 .mod (.var 1) (.cst (.int 2))) (.cst (.int 0))) [(.ex (.mc (.var 3) 56 [(.cst (.str [97]))]))] [(.ex (.mc (.var 3) 61 []))])] [(.ite (.op2 .eq (.var 0) (.cst (.int 7))) [(.ex (.mc (.mk 1 [(.var 2), (.cst (.str [])), (.cst (.int 0))]) 113 []))] [(.ex (.call 125 [(.cst (.str [98, 97, 114, 114, 101, 100, 32, 97, 98]))]))])])])])])])])])]⟩
/-- _law_kind: 0 _law_what 1 _law_thing 2 _law_told -/
def F_law_kind : Fn := ⟨2, 3,
  [(.set 2 (.cst .non)),
   (.try_ [(.ex (.call 131 [(.var 0), (.var 1)]))] [(.c [(0, false), (1, true), (2, false), (3, false), (4, false), (5, false), (6, false), (7, false), (8, false), (9, false)] 2 (.int 0)), (.c [(0, false), (1, false), (2, true), (3, false), (4, false), (5, false), (6, false), (7, false), (8, false), (9, false)] 2 (.int 1)), (.c [(0, false), (1, false), (2, false), (3, true), (4, false), (5, false), (6, false), (7, false), (8, false), (9, false)] 2 (.int 2)), (.c [(0, false), (1, false), (2, false), (3, false), (4, true), (5, false), (6, false), (7, false), (8, false), (9, false)] 2 (.int 3)), (.c [(0, false), (1, false), (2, false), (3, false), (4, false), (5, true), (6, false), (7, false), (8, false), (9, false)] 2 (.int 4)), (.c [(0, false), (1, false), (2, false), (3, false), (4, false), (5, false), (6, true), (7, false), (8, false), (9, false)] 2 (.int 5)), (.c [(0, false), (1, false), (2, false), (3, false), (4, false), (5, false), (6, false), (7, true), (8, false), (9, false)] 2 (.int 6)), (.c [(0, false), (1, false), (2, false), (3, false), (4, false), (5, false), (6, false), (7, false), (8, true), (9, false)] 2 (.int 7)), (.c [(0, false), (1, false), (2, false), (3, false), (4, false), (5, false), (6, false), (7, false), (8, false), (9, true)] 2 (.int 8))]),
   (.ret (.var 2))]⟩
/-- _law_under: 0 _law_what 1 _law_thing 2 _law_told -/
def F_law_under : Fn := ⟨2, 3,
  [(.set 2 (.cst (.bl false))),
   (.try_ [(.ex (.call 131 [(.var 0), (.var 1)]))] [(.c [(0, true), (1, true), (2, true), (3, true), (4, true), (5, true), (6, true), (7, true), (8, true), (9, true)] 2 (.bl true))]),
   (.ret (.var 2))]⟩
/-- law: 0 _law_script 1 _law_draws 2 _law_what 3 _law_thing -/
def F_law_k11 : Fn := ⟨1, 4,
  [(.set 2 (.draw 1 (.cst (.int 9)))),
   (.set 3 (.draw 1 (.cst (.int 6)))),
   (.ret (.and [(.op2 .eq (.call 132 [(.var 2), (.var 3)]) (.var 2)), (.call 133 [(.var 2), (.var 3)])]))]⟩
/-- Led.best: 0 self -/
def F_Led_best_k12 : Fn := ⟨1, 1,
  [(.ex (.call 52 [(.cst (.int 1))]))]⟩
/-- Led.undo: 0 self -/
def F_Led_undo_k12 : Fn := ⟨1, 1,
  [(.ex (.call 52 [(.cst (.int 2))]))]⟩
/-- law: 0 _law_script 1 _law_draws 2 _law_parts 3 _law_lot 4 _law_told 5 _law_rows 6 _law_before 7 _law_stand 8 _law_some 9 _law_full 10 _law_led 11 _law_found 12 _law_many 13 _law_way 14 _law_then -/
def F_law_k12 : Fn := ⟨1, 15,
  [(.set 2 (.new (.callR 21 [true] [(.var 1)]))),
   (.setIx (.var 2) (.cst (.int 0)) (.slice (.op2 .ix (.var 2) (.cst (.int 0))) none (some (.cst (.int 3))))),
   (.fz [2] (.set 3 (.call 22 [(.var 2)]))),
   (.set 4 (.new (.call 43 [(.var 3)]))),
   (.set 5 (.bi .sorted [(.var 4)])),
   (.set 6 (.lc [7] false .lst [(.var 5)] [] (.op2 .ix (.var 4) (.var 7)))),
   (.setIx (.var 4) (.op2 .ix (.var 5) (.cst (.int 0))) (.cst (.str [115, 112, 111, 105, 108, 116]))),
   (.setIx (.var 4) (.cst (.str [115, 112, 111, 105, 108, 116])) (.cst (.int 1))),
   (.ite (.or [(.op2 .ne (.lc [7] false .lst [(.var 5)] [] (.op2 .ix (.call 43 [(.var 3)]) (.var 7))) (.var 6)), (.op2 .ne (.bi .sorted [(.call 43 [(.var 3)])]) (.var 5))]) [(.ret (.cst (.bl false)))] []),
   (.set 7 (.op2 .ix (.var 5) (.draw 1 (.bi .len [(.var 5)])))),
   (.for_ [8] false .lst [(.lst [(.call 14 [(.var 3)]), (.call 16 [(.var 3)]), (.call 42 [(.var 3), (.var 7)]), (.call 53 [(.var 3), (.var 7), (.cst (.int 5))]), (.call 79 [(.var 3)]), (.call 94 [(.var 3), (.cst (.int 0))])])] [(.ex (.me .app (.var 8) [(.cst (.str [115, 112, 111, 105, 108, 116]))]))]),
   (.ite (.op2 .isin (.cst (.str [115, 112, 111, 105, 108, 116])) (.op2 .add (.op2 .add (.op2 .add (.op2 .add (.op2 .add (.call 14 [(.var 3)]) (.call 16 [(.var 3)])) (.call 42 [(.var 3), (.var 7)])) (.call 53 [(.var 3), (.var 7), (.cst (.int 5))])) (.call 79 [(.var 3)])) (.call 94 [(.var 3), (.cst (.int 0))]))) [(.ret (.cst (.bl false)))] []),
   (.fz [2] (.ite (.not (.call 24 [(.var 2), (.cst (.str [97]))])) [(.set 11 (.new (.call 92 [(.var 3), (.cst (.str [97])), (.cst (.int 0))]))),
   (.set 12 (.bi .len [(.var 11)])),
   (.ex (.me .app (.var 11) [(.cst (.str [115, 112, 111, 105, 108, 116]))])),
   (.ite (.op2 .ne (.bi .len [(.call 92 [(.var 3), (.cst (.str [97])), (.cst (.int 0))])]) (.var 12)) [(.ret (.cst (.bl false)))] [])] [])),
   (.set 9 (.mk 4 [(.tup [(.cst (.str [97, 97])), (.cst (.str [98, 98])), (.cst (.str [97, 98])), (.cst (.str [98, 97])), (.cst (.str [97, 97, 97, 97])), (.cst (.str [99, 100]))]), (.op2 .ix (.var 2) (.cst (.int 1))), (.op2 .ix (.var 2) (.cst (.int 2))), (.op2 .ix (.var 2) (.cst (.int 3)))])),
   (.ite (.op2 .gt (.bi .len [(.lc [13, 14] true .lst [(.call 92 [(.var 9), (.cst (.str [])), (.cst (.int 0))])] [(.op2 .eq (.op2 .ix (.var 13) (.cst (.int 0))) (.cst (.str [105, 110])))] (.var 13))]) (.cst (.int 0))) [(.ret (.cst (.bl false)))] []),
   (.set 10 (.mk 1 [(.var 3), (.cst (.str [])), (.cst (.int 0))])),
   (.fz [2] (.ret (.and [(.op2 .eq (.bi .len [(.var 10)]) (.cst (.int 0))), (.op2 .eq (.mc (.var 10) 57 []) (.cst (.str []))), (.op2 .eq (.var 3) (.call 22 [(.var 2)]))])))]⟩
/-- law: 0 _law_script 1 _law_draws 2 _law_a 3 _law_b 4 _law_both 5 _law_rule 6 _law_size 7 _law_row 8 _law_begin_here 9 _law_first 10 _law_wide 11 _law_here 12 _law_more 13 _law_other 14 _law_plain 15 _law_letter -/
def F_law_k13 : Fn := ⟨1, 16,
  [(.set 2 (.op2 .ix (.cst (.str [97, 98, 99, 100])) (.draw 1 (.cst (.int 4))))),
   (.set 3 (.op2 .ix (.lc [15] false .str [(.cst (.str [97, 98, 99, 100]))] [(.op2 .ne (.var 15) (.var 2))] (.var 15)) (.draw 1 (.cst (.int 3))))),
   (.set 4 (.me .join (.cst (.str [])) [(.bi .sorted [(.lst [(.var 2), (.var 3)])])])),
   (.set 5 (.op2 .ix (.lst [(.cst (.str [108, 111, 115, 101, 115])), (.cst (.str [119, 105, 110, 115]))]) (.draw 1 (.cst (.int 2))))),
   (.set 6 (.op2 .add (.cst (.int 1)) (.draw 1 (.cst (.int 4))))),
   (.set 7 (.mk 4 [(.tup [(.op2 .mul (.var 2) (.var 6))]), (.var 2), (.var 2), (.var 5)])),
   (.set 8 (.call 15 [(.var 7), (.cst (.str [])), (.draw 1 (.cst (.int 2)))])),
   (.set 9 (.op2 .eq (.op2 .eq (.op2 .mod (.var 6) (.cst (.int 2))) (.cst (.int 1))) (.op2 .eq (.var 5) (.cst (.str [119, 105, 110, 115]))))),
   (.ite (.not (.call 29 [(.call 40 [(.var 7), (.var 8)]), (.tup [(.op2 .ix (.lst [(.cst (.str [108, 111, 115, 116])), (.cst (.str [119, 111, 110]))]) (.bi .int [(.var 9)])), (.var 6)])])) [(.ret (.cst (.bl false)))] []),
   (.ite (.or [(.op2 .ne (.call 53 [(.var 7), (.var 8), (.cst (.int 9))]) (.op2 .mul (.lst [(.var 2)]) (.var 6))), (.op2 .ne (.call 42 [(.var 7), (.var 8)]) (.lst [(.var 2)]))]) [(.ret (.cst (.bl false)))] []),
   (.set 10 (.mk 4 [(.tup [(.op2 .add (.var 2) (.var 2))]), (.var 4), (.var 4), (.var 5)])),
   (.set 11 (.call 15 [(.var 10), (.var 2), (.cst (.int 0))])),
   (.ite (.and [(.op2 .eq (.var 5) (.cst (.str [108, 111, 115, 101, 115]))), (.or [(.op2 .ne (.call 40 [(.var 10), (.var 11)]) (.tup [(.cst (.str [111, 112, 101, 110])), (.cst .non)])), (.op2 .ne (.call 42 [(.var 10), (.var 11)]) (.lst [(.var 3)]))])]) [(.ret (.cst (.bl false)))] []),
   (.ite (.and [(.op2 .eq (.var 5) (.cst (.str [119, 105, 110, 115]))), (.or [(.op2 .ne (.call 40 [(.var 10), (.var 11)]) (.tup [(.cst (.str [119, 111, 110])), (.cst (.int 1))])), (.op2 .ne (.call 42 [(.var 10), (.var 11)]) (.lst [(.var 2)]))])]) [(.ret (.cst (.bl false)))] []),
   (.ite (.and [(.op2 .eq (.var 5) (.cst (.str [119, 105, 110, 115]))), (.op2 .ne (.call 40 [(.var 10), (.call 15 [(.var 10), (.cst (.str [])), (.cst (.int 1))])]) (.tup [(.cst (.str [111, 112, 101, 110])), (.cst .non)]))]) [(.ret (.cst (.bl false)))] []),
   (.ite (.and [(.op2 .eq (.var 5) (.cst (.str [108, 111, 115, 101, 115]))), (.op2 .ne (.call 94 [(.var 10), (.cst (.int 0))]) (.lst [(.var 2)]))]) [(.ret (.cst (.bl false)))] []),
   (.set 12 (.mk 4 [(.tup [(.op2 .add (.var 2) (.var 3)), (.op2 .add (.op2 .add (.var 3) (.var 2)) (.var 3))]), (.var 4), (.var 4), (.var 5)])),
   (.ite (.or [(.op2 .ne (.call 79 [(.var 12)]) (.lst [(.cst (.int 1))])), (.not (.call 77 [(.var 12), (.mk 4 [(.tup [(.op2 .add (.var 2) (.var 3))]), (.var 4), (.var 4), (.var 5)])]))]) [(.ret (.cst (.bl false)))] []),
   (.set 13 (.mk 4 [(.tup [(.op2 .mul (.var 2) (.cst (.int 2))), (.op2 .mul (.var 3) (.cst (.int 2))), (.op2 .add (.var 2) (.var 3)), (.op2 .add (.var 3) (.var 2))]), (.var 4), (.var 4), (.cst (.str [108, 111, 115, 101, 115]))])),
   (.ite (.op2 .ne (.call 76 [(.mk 3 [(.tup [(.var 2)]), (.var 4), (.var 4)]), (.mk 3 [(.tup [(.var 3)]), (.var 4), (.var 4)])]) (.tup [(.bi .min [(.var 2), (.var 3)]), (.cst (.int 0))])) [(.ret (.cst (.bl false)))] []),
   (.ite (.not (.call 29 [(.call 40 [(.var 13), (.call 15 [(.var 13), (.var 2), (.cst (.int 0))])]), (.tup [(.cst (.str [108, 111, 115, 116])), (.cst (.int 1))])])) [(.ret (.cst (.bl false)))] []),
   (.set 14 (.mk 3 [(.tup [(.op2 .mul (.var 2) (.cst (.int 3)))]), (.var 2), (.var 2)])),
   (.ite (.op2 .ne (.lst [(.call 104 [(.var 14), (.cst (.str []))]), (.call 104 [(.var 14), (.var 2)]), (.call 104 [(.var 14), (.op2 .add (.var 2) (.var 2))])]) (.lst [(.cst (.int 0)), (.cst (.int 1)), (.cst (.int 0))])) [(.ret (.cst (.bl false)))] []),
   (.ret (.and [(.call 106 [(.var 14), (.lst [(.var 2), (.cst (.str []))])]), (.not (.call 106 [(.var 14), (.lst [(.cst (.str [])), (.var 3)])])), (.not (.call 106 [(.var 14), (.lst [(.var 2), (.var 2), (.op2 .add (.var 2) (.var 2))])]))]))]⟩
def pg : Pg := ⟨[some F_is_word, some F_are_letters, some F_are_barred, some F_are_passes, some F_Lot_init, some F_Lot_eq, some F_others_of, some F_is_ending, some F_cut_tail, some F_step, some F_tail_or_none, some F_tail, some F_by_size, some F_all_tails, some F_tails, some F_stand_of, some F_stands, some F_law_begin, some F_law_letters, some F_law_word, some F_law_barred, some F_law_drawn, some F_law_make, some F_law_ends, some F_law_done, some F_law_tail, some F_law_tails, some F_law_stands, some F_law_turns, some F_law_like, some F_law_bad, some F_law_told, some F_law_k01, some F_letters_of, some F_turns, some F_seen_from, some F_value_by, some F_decided, some F_all_values, some F_check_stand, some F_value, some F_good_turns, some F_good, some F_table, some F_law_from, some F_law_solved, some F_law_refused, some F_law_k02, some F_is_value, some F_are_stands, some F_shows_table, some F_law_k03, some F_wall, some F_line, some F_Led_init, some F_Led_stand, some F_Led_turn, some F_Led_word, some F_Led_player, some F_Led_left, some F_Led_winner, some F_Led_best, some F_Led_undo, some F_Led_len, some F_Led_eq, some F_law_turns_k04, some F_law_solved_k04, some F_law_word_of, some F_law_line, some F_law_stand, some F_law_k04, some F_with_barred, some F_first_word, some F_Both_init, some F_Both_parted_player, some F_parted_here, some F_parting, some F_alike, some F_without, some F_needless, some F_law_drawn_k05, some F_law_stands_k05, some F_law_turns_k05, some F_law_solved_k05, some F_law_words, some F_law_first, some F_law_unlike, some F_law_other, some F_law_k05, some F_small_words, some F_all_changes, some F_first_of_word, some F_changes, some F_is_forcing, some F_forcing, some F_longer, some F_law_value, some F_law_force, some F_law_shortest, some F_law_k06, some F_check_lot, some F_nexts, some F_least_missing, some F_worth_at, some F_worth, some F_added, some F_wins, some F_law_next, some F_law_ever, some F_law_worth, some F_law_wins, some F_law_told_k07, some F_law_k07, some F_Led_undo_k08, some F_law_like_k08, some F_law_try, some F_law_play, some F_law_due, some F_law_k08, some F_BadLine_init, some F_write, some F_barred_in, some F_letters_in, some F_rule_in, some F_part_in, some F_read, some F_law_k09, some F_law_told_k10, some F_law_k10, some F_Led_winner_k11, some F_law_word_call, some F_law_call, some F_law_kind, some F_law_under, some F_law_k11, some F_Led_best_k12, some F_Led_undo_k12, some F_law_k12, some F_law_k13], [(.str [97, 98, 99, 100]), (.ktup [(.str [108, 111, 115, 101, 115]), (.str [119, 105, 110, 115])]), (.str [112, 97, 115, 115]), (.kdct [([48], 0), ([49], 1), ([50], 2)]), (.cl 0), (.cl 1), (.cl 2), (.cl 3), (.cl 4), (.cl 5), (.cl 6), (.cl 7), (.cl 8), (.cl 9), (.cl 10), (.cl 11), (.cl 12)], [(10, 4, []), (12, 54, []), (11, 73, []), (10, 4, [(.str [108, 111, 115, 101, 115]), (.int 0)]), (10, 4, [(.int 0)])]⟩
end Yl
set_option maxHeartbeats 0
namespace Wt
open PySem PySem.Spec PyProof.Rows L2 Yl
def top (i : Nat) : Stmt := PySem.Challenge.pw_wordturns_k10_texts_refused.main.body.getD i (.Pass ⟨0, 0, 0, 0⟩)
abbrev s_is_word : Stmt := top 7
def d_is_word : He.DefD := ⟨("is_word", none), "is_word", "is_word", defArgs s_is_word, defBody s_is_word, defScope s_is_word, [], []⟩
abbrev s_are_letters : Stmt := top 8
def d_are_letters : He.DefD := ⟨("are_letters", none), "are_letters", "are_letters", defArgs s_are_letters, defBody s_are_letters, defScope s_are_letters, [], []⟩
abbrev s_are_barred : Stmt := top 9
def d_are_barred : He.DefD := ⟨("are_barred", none), "are_barred", "are_barred", defArgs s_are_barred, defBody s_are_barred, defScope s_are_barred, [], []⟩
abbrev s_are_passes : Stmt := top 10
def d_are_passes : He.DefD := ⟨("are_passes", none), "are_passes", "are_passes", defArgs s_are_passes, defBody s_are_passes, defScope s_are_passes, [], []⟩
abbrev s_others_of : Stmt := top 12
def d_others_of : He.DefD := ⟨("others_of", none), "others_of", "others_of", defArgs s_others_of, defBody s_others_of, defScope s_others_of, [], []⟩
abbrev s_barred_in : Stmt := top 15
def d_barred_in : He.DefD := ⟨("barred_in", none), "barred_in", "barred_in", defArgs s_barred_in, defBody s_barred_in, defScope s_barred_in, [], []⟩
abbrev s_letters_in : Stmt := top 16
def d_letters_in : He.DefD := ⟨("letters_in", none), "letters_in", "letters_in", defArgs s_letters_in, defBody s_letters_in, defScope s_letters_in, [], []⟩
abbrev s_rule_in : Stmt := top 17
def d_rule_in : He.DefD := ⟨("rule_in", none), "rule_in", "rule_in", defArgs s_rule_in, defBody s_rule_in, defScope s_rule_in, [], []⟩
abbrev s_part_in : Stmt := top 18
def d_part_in : He.DefD := ⟨("part_in", none), "part_in", "part_in", defArgs s_part_in, defBody s_part_in, defScope s_part_in, [], []⟩
abbrev s_read : Stmt := top 19
def d_read : He.DefD := ⟨("read", none), "read", "read", defArgs s_read, defBody s_read, defScope s_read, [], []⟩
abbrev s_law_begin : Stmt := top 21
def d_law_begin : He.DefD := ⟨("_law_begin", none), "_law_begin", "_law_begin", defArgs s_law_begin, defBody s_law_begin, defScope s_law_begin, [], []⟩
abbrev s_law_draw : Stmt := top 22
def d_law_draw : He.DefD := ⟨("_law_draw", none), "_law_draw", "_law_draw", defArgs s_law_draw, defBody s_law_draw, defScope s_law_draw, [], []⟩
abbrev s_law_told : Stmt := top 23
def d_law_told : He.DefD := ⟨("_law_told", none), "_law_told", "_law_told", defArgs s_law_told, defBody s_law_told, defScope s_law_told, [], []⟩
abbrev s_law : Stmt := top 24
def d_law : He.DefD := ⟨("law", none), "law", "law", defArgs s_law, defBody s_law, defScope s_law, [], []⟩
abbrev s_BadLine_init : Stmt := inClass (top 3) 0
def d_BadLine_init : He.DefD := ⟨("BadLine", some "__init__"), "__init__", "BadLine.__init__", defArgs s_BadLine_init, defBody s_BadLine_init, defScope s_BadLine_init, [], []⟩
abbrev s_Lot_init : Stmt := inClass (top 11) 0
def d_Lot_init : He.DefD := ⟨("Lot", some "__init__"), "__init__", "Lot.__init__", defArgs s_Lot_init, defBody s_Lot_init, defScope s_Lot_init, [.str "loses", .int 0], []⟩
abbrev s_Lot_eq : Stmt := inClass (top 11) 1
def d_Lot_eq : He.DefD := ⟨("Lot", some "__eq__"), "__eq__", "Lot.__eq__", defArgs s_Lot_eq, defBody s_Lot_eq, defScope s_Lot_eq, [], []⟩
def loose0 : List Str := ["is_word", "are_letters", "are_barred", "are_passes", "others_of", "barred_in", "letters_in", "rule_in", "part_in", "read", "_law_begin", "_law_draw", "_law_told", "TurnError", "BadLot", "BadLine", "Lot", "LETTERS", "RULES", "COUNTS"]
def loose : List Str := loose0
def fn : List He.DefD := [d_is_word, d_are_letters, d_are_barred, d_are_passes, d_others_of, d_barred_in, d_letters_in, d_rule_in, d_part_in, d_read, d_law_begin, d_law_draw, d_law_told, d_law, d_BadLine_init, d_Lot_init, d_Lot_eq]
def fa0 : List He.Fa := [.glo "is_word", .glo "are_letters", .glo "are_barred", .glo "are_passes", .glo "others_of", .glo "barred_in", .glo "letters_in", .glo "rule_in", .glo "part_in", .glo "read", .glo "_law_begin", .glo "_law_draw", .glo "_law_told", .glo "law", .glo "TurnError", .exc "TurnError", .keep "TurnError", .glo "BadLot", .exc "BadLot", .keep "BadLot", .glo "BadLine", .keep "BadLine", .meth "BadLine" "__init__", .glo "Lot", .cls "Lot", .mkr "Lot", .noat "Lot" "barred", .noat "Lot" "first", .noat "Lot" "second", .noat "Lot" "rule", .noat "Lot" "passes", .meth "Lot" "__init__", .meth "Lot" "__eq__", .exm "TurnError" "BadLine" false, .exm "BadLot" "BadLine" false]
def fa1 : List He.Fa := [.exm "BadLine" "BadLine" true, .free "all", .free "bool", .free "int", .free "isinstance", .free "len", .free "list", .free "range", .free "sorted", .free "str", .free "tuple", .free "zip", .str "LETTERS" "abcd", .glo "RULES", .glo "COUNTS"]
def fa : List He.Fa := fa0 ++ fa1
def ts : List He.Tab := [(fun K => He.ga K "COUNTS", ["0", "1", "2"])]
def moreB (K : PySem.W.Frag) : Bool := He.tupB K "RULES" [.str "loses", .str "wins"] && (Yl.kdB K (He.ga K "COUNTS") [([48], 0), ([49], 1), ([50], 2)] && ((Yl.oexB K (He.ga K "BadLine") && (L2.xfB K (He.ga K "BadLine") && (decide (PySem.W.findIn K (.ref (He.ga K "BadLine")) (Yl.ts [108, 105, 110, 101]) = some none) && (decide (PySem.W.findIn K (.ref (He.ga K "BadLine")) "__init__" = some (some (.ref (He.fAd K ("BadLine", some "__init__"))))) && decide (PySem.W.typeIn K (.ref (He.fAd K ("BadLine", some "__init__"))) = some (.type "function"))))))))
abbrev R : PySem.W.OpenRow := PySem.W.OpenLaw.row PySem.Challenge.rw_wordturns_k10_texts_refused
abbrev hk : PySem.W.Hook := He.hookX 5 fa fn ts [] moreB
def ob (s : PySem.W.SharedT) : He.AlX := He.obsX 5 fa fn ts [] moreB (HandSHeadRun.getT s)
theorem ob_eq (s : PySem.W.SharedT) : ob s = hk.obs s.abs := He.obsX_eq (HandSHeadRun.getT_eq s)
theorem run (w : World) : HandSHeadRun.RunEq R (PySem.W.view R.prog [24]) hk ob 6000 loose w := by
  refine PySem.W.byRow2 "special-get-raises" (P := fun w => HandSHeadRun.RunEq R (PySem.W.view R.prog [24]) hk ob 6000 loose w) (fun w => ?_) (fun w => ?_) w
  · intro os
    kernel_rfl
  · intro os
    kernel_rfl
def cn : Nat → Str
  | 0 => "TurnError"
  | 1 => "BadLot"
  | 9 => "BadLine"
  | 10 => "Lot"
  | _ => ""
def L : Lw := ⟨pg, [some (Str.ofString "is_word"), some (Str.ofString "are_letters"), some (Str.ofString "are_barred"), some (Str.ofString "are_passes"), none, none, none, none, none, none, none, none, none, none, none, none, none, none, none, none, none, none, none, none, none, none, none, none, none, none, none, none, none, none, none, none, none, none, none, none, none, none, none, none, none, none, none, none, none, none, none, none, none, none, none, none, none, none, none, none, none, none, none, none, none, none, none, none, none, none, none, none, none, none, none, none, none, none, none, none, none, none, none, none, none, none, none, none, none, none, none, none, none, none, none, none, none, none, none, none, none, none, none, none, none, none, none, none, none, none, none, none, none, none, none, none, none, none, none, none, none, some (Str.ofString "barred_in"), some (Str.ofString "letters_in"), some (Str.ofString "rule_in"), some (Str.ofString "part_in"), some (Str.ofString "read"), none, some (Str.ofString "_law_told"), none, none, none, none, none, none, none, none, none, none, none], [some (Str.ofString "LETTERS"), some (Str.ofString "RULES"), none, some (Str.ofString "COUNTS"), some (Str.ofString "TurnError"), some (Str.ofString "BadLot"), none, none, none, none, none, none, none, some (Str.ofString "BadLine"), some (Str.ofString "Lot"), none, none], ["all", "bool", "int", "isinstance", "len", "list", "range", "sorted", "str", "tuple", "zip"], [10], [(10, [98, 97, 114, 114, 101, 100]), (10, [102, 105, 114, 115, 116]), (10, [115, 101, 99, 111, 110, 100]), (10, [114, 117, 108, 101]), (10, [112, 97, 115, 115, 101, 115])], [(0, "TurnError"), (1, "BadLot"), (9, "BadLine"), (10, "Lot")], [0, 1], [(9, [108, 105, 110, 101])], [(0, 9, false), (1, 9, false), (9, 9, true)], [(9, [108, 105, 110, 101])], true⟩
section
variable {P : Program} {w : World} {K : PySem.W.Frag} {h : Heap} {mg : Str → Option Value} {base : Heap}
abbrev mx (P : Program) (w : World) (K : PySem.W.Frag) (mg : Str → Option Value) (base : Heap) : Mx := mxOf P w K mg base cn
theorem more_all (c : He.SaysX fa fn ts [] moreB w h K) : (He.tupB K "RULES" [.str "loses", .str "wins"]) = true ∧ (Yl.kdB K (He.ga K "COUNTS") [([48], 0), ([49], 1), ([50], 2)]) = true ∧ ((Yl.oexB K (He.ga K "BadLine") && (L2.xfB K (He.ga K "BadLine") && (decide (PySem.W.findIn K (.ref (He.ga K "BadLine")) (Yl.ts [108, 105, 110, 101]) = some none) && (decide (PySem.W.findIn K (.ref (He.ga K "BadLine")) "__init__" = some (some (.ref (He.fAd K ("BadLine", some "__init__"))))) && decide (PySem.W.typeIn K (.ref (He.fAd K ("BadLine", some "__init__"))) = some (.type "function"))))))) = true := by
  have e := c.more
  unfold moreB at e
  simp only [Bool.and_eq_true] at e ⊢
  exact e
theorem ts_fact (c : He.SaysX fa fn ts [] moreB w h K) : He.dicW K (He.ga K "COUNTS") = some (He.keysIn w.params ([([48], 0), ([49], 1), ([50], 2)].map fun p : Tx × Int => Yl.ts p.1)) := by
  have e : ts.map (fun t => He.dicW K (t.1 K)) = ts.map fun t => some (He.keysIn w.params t.2) := congrArg (fun z : He.AlT => z.2) c.t
  injection e
theorem gl_ok (KX : K.In h) (G : h.Ns mainGlobals mg) (c : He.SaysX fa fn ts [] moreB w h K) : glAll (mx P w K mg base) L.gnm L.pg.gls := And.intro (by obtain ⟨t, e⟩ := He.str_ok KX G (faHas_ok c.t.d (f := .str "LETTERS" "abcd") (by decide +kernel)); exact ⟨.str "abcd", _, e, (show L2.RelV (.str "abcd") (.str "abcd" t) from ⟨t, rfl⟩), fun _ _ => rep_lit (by kernel_rfl)⟩) ( And.intro ⟨.ref (He.ga K "RULES"), _, He.glo_ok KX G (faHas_ok c.t.d (f := .glo "RULES") (by decide +kernel)), rfl, fun F m => (fun r => .ktup (He.tupB_ok ((more_all c).1) _) r.1 r.2) (At.cons (R := Rep (mx P w K mg base) F m) (rep_lit (by kernel_rfl)) (At.cons (R := Rep (mx P w K mg base) F m) (rep_lit (by kernel_rfl)) (At.nil)))⟩ ( And.intro ⟨.ref (He.ga K "COUNTS"), _, He.glo_ok KX G (faHas_ok c.t.d (f := .glo "COUNTS") (by decide +kernel)), rfl, rep_kdct (M := mx P w K mg base) (ts_fact c) ((more_all c).2.1)⟩ ( And.intro ⟨.ref (He.ga K "TurnError"), _, He.glo_ok KX G (faHas_ok c.t.d (f := .glo "TurnError") (by decide +kernel)), rfl, fun _ _ => .cl 0⟩ ( And.intro ⟨.ref (He.ga K "BadLot"), _, He.glo_ok KX G (faHas_ok c.t.d (f := .glo "BadLot") (by decide +kernel)), rfl, fun _ _ => .cl 1⟩ ( And.intro ⟨.ref (He.ga K "BadLine"), _, He.glo_ok KX G (faHas_ok c.t.d (f := .glo "BadLine") (by decide +kernel)), rfl, fun _ _ => .cl 9⟩ ( And.intro ⟨.ref (He.ga K "Lot"), _, He.glo_ok KX G (faHas_ok c.t.d (f := .glo "Lot") (by decide +kernel)), rfl, fun _ _ => .cl 10⟩ (True.intro)))))))
theorem e1_ok (KX : K.In h) (G : h.Ns mainGlobals mg) (c : He.SaysX fa fn ts [] moreB w h K) : ∀ p, p ∈ L.exc1 → ∀ x, (p.1, x) ∈ L.cnm → ExcI (mx P w K mg base) p.1 x (Yl.ts p.2) 1 := by
  intro p hp x hx
  have e : p = (9, [108, 105, 110, 101]) := List.mem_singleton.mp hp
  subst e
  have ex : x = "BadLine" := by
    simp only [L, List.mem_cons, Prod.mk.injEq, List.not_mem_nil, or_false] at hx
    rcases hx with ⟨h, e⟩ | ⟨h, e⟩ | ⟨h, e⟩ | ⟨h, e⟩ <;> first | exact e | (cases h; done)
  subst ex
  have q := (more_all c).2.2
  simp only [Bool.and_eq_true] at q
  obtain ⟨m1, m2, m3, m4, m5⟩ := q
  obtain ⟨fd, F⟩ := c.t.d.def_ 14 (d := d_BadLine_init) rfl
  exact ⟨He.glo_ok KX G (faHas_ok c.t.d (f := .glo "BadLine") (by decide +kernel)), oexB_ok m1, _, fd, ["self", "line"], of_decide_eq_true m4, of_decide_eq_true m5, ox_init F ⟨rfl, rfl, rfl, by decide +kernel, rfl, by decide +kernel, by decide +kernel⟩ (oexB_ok m1) (of_decide_eq_true m3) (by decide +kernel) (by decide +kernel) (by decide +kernel) (by decide +kernel) (by decide +kernel) (by decide +kernel), F.bindsN fun _ _ _ _ _ _ us hl => match us, hl with | [_, _], _ => rfl⟩
theorem xf_ok (c : He.SaysX fa fn ts [] moreB w h K) : ∀ p, p ∈ L.xf → XfC K (He.ga K (cn p.1)) ∧ PySem.W.findIn K (.ref (He.ga K (cn p.1))) (Yl.ts p.2) = some none := by
  intro p hp
  have q := (more_all c).2.2
  simp only [Bool.and_eq_true] at q
  obtain ⟨m1, m2, m3, m4, m5⟩ := q
  have e : p = (9, [108, 105, 110, 101]) := List.mem_singleton.mp hp
  subst e
  exact ⟨xfB_ok m2, of_decide_eq_true m3⟩
theorem fac_ok (KX : K.In h) (G : h.Ns mainGlobals mg) (c : He.SaysX fa fn ts [] moreB w h K) : Fac (mx P w K mg base) L := fac_of KX G c.t.d (by decide +kernel) (gl_ok KX G c) (e1_ok KX G c) (xf_ok c)
theorem fs_0 (KX : K.In h) (G : h.Ns mainGlobals mg) (c : He.SaysX fa fn ts [] moreB w h K) : FnS (mx P w K mg base) L 60 40 0 "is_word" :=
  fnS_of (F := F_is_word) (N := ["thing", "letter"]) (ps := ["thing"]) KX G c.t.d (d := d_is_word) 0 rfl rfl rfl rfl (by decide +kernel) ⟨rfl, rfl, rfl, by decide +kernel, rfl, by decide +kernel, by decide +kernel⟩ (fun _ _ _ _ _ _ us hl => match us, hl with | [_], _ => rfl) rfl rfl rfl (by decide +kernel)
theorem fs_1 (KX : K.In h) (G : h.Ns mainGlobals mg) (c : He.SaysX fa fn ts [] moreB w h K) : FnS (mx P w K mg base) L 60 40 1 "are_letters" :=
  fnS_of (F := F_are_letters) (N := ["thing", "one", "other"]) (ps := ["thing"]) KX G c.t.d (d := d_are_letters) 1 rfl rfl rfl rfl (by decide +kernel) ⟨rfl, rfl, rfl, by decide +kernel, rfl, by decide +kernel, by decide +kernel⟩ (fun _ _ _ _ _ _ us hl => match us, hl with | [_], _ => rfl) rfl rfl rfl (by decide +kernel)
theorem fs_2 (KX : K.In h) (G : h.Ns mainGlobals mg) (c : He.SaysX fa fn ts [] moreB w h K) : FnS (mx P w K mg base) L 60 40 2 "are_barred" :=
  fnS_of (F := F_are_barred) (N := ["thing", "word"]) (ps := ["thing"]) KX G c.t.d (d := d_are_barred) 2 rfl rfl rfl rfl (by decide +kernel) ⟨rfl, rfl, rfl, by decide +kernel, rfl, by decide +kernel, by decide +kernel⟩ (fun _ _ _ _ _ _ us hl => match us, hl with | [_], _ => rfl) rfl rfl rfl (by decide +kernel)
theorem fs_3 (KX : K.In h) (G : h.Ns mainGlobals mg) (c : He.SaysX fa fn ts [] moreB w h K) : FnS (mx P w K mg base) L 60 40 3 "are_passes" :=
  fnS_of (F := F_are_passes) (N := ["thing"]) (ps := ["thing"]) KX G c.t.d (d := d_are_passes) 3 rfl rfl rfl rfl (by decide +kernel) ⟨rfl, rfl, rfl, by decide +kernel, rfl, by decide +kernel, by decide +kernel⟩ (fun _ _ _ _ _ _ us hl => match us, hl with | [_], _ => rfl) rfl rfl rfl (by decide +kernel)
theorem fs_121 (KX : K.In h) (G : h.Ns mainGlobals mg) (c : He.SaysX fa fn ts [] moreB w h K) : FnS (mx P w K mg base) L 60 40 121 "barred_in" :=
  fnS_of (F := F_barred_in) (N := ["line", "words"]) (ps := ["line"]) KX G c.t.d (d := d_barred_in) 5 rfl rfl rfl rfl (by decide +kernel) ⟨rfl, rfl, rfl, by decide +kernel, rfl, by decide +kernel, by decide +kernel⟩ (fun _ _ _ _ _ _ us hl => match us, hl with | [_], _ => rfl) rfl rfl rfl (by decide +kernel)
theorem fs_122 (KX : K.In h) (G : h.Ns mainGlobals mg) (c : He.SaysX fa fn ts [] moreB w h K) : FnS (mx P w K mg base) L 60 40 122 "letters_in" :=
  fnS_of (F := F_letters_in) (N := ["line", "words"]) (ps := ["line"]) KX G c.t.d (d := d_letters_in) 6 rfl rfl rfl rfl (by decide +kernel) ⟨rfl, rfl, rfl, by decide +kernel, rfl, by decide +kernel, by decide +kernel⟩ (fun _ _ _ _ _ _ us hl => match us, hl with | [_], _ => rfl) rfl rfl rfl (by decide +kernel)
theorem fs_123 (KX : K.In h) (G : h.Ns mainGlobals mg) (c : He.SaysX fa fn ts [] moreB w h K) : FnS (mx P w K mg base) L 60 40 123 "rule_in" :=
  fnS_of (F := F_rule_in) (N := ["line", "words"]) (ps := ["line"]) KX G c.t.d (d := d_rule_in) 7 rfl rfl rfl rfl (by decide +kernel) ⟨rfl, rfl, rfl, by decide +kernel, rfl, by decide +kernel, by decide +kernel⟩ (fun _ _ _ _ _ _ us hl => match us, hl with | [_], _ => rfl) rfl rfl rfl (by decide +kernel)
theorem fs_124 (KX : K.In h) (G : h.Ns mainGlobals mg) (c : He.SaysX fa fn ts [] moreB w h K) : FnS (mx P w K mg base) L 60 40 124 "part_in" :=
  fnS_of (F := F_part_in) (N := ["at", "line"]) (ps := ["at", "line"]) KX G c.t.d (d := d_part_in) 8 rfl rfl rfl rfl (by decide +kernel) ⟨rfl, rfl, rfl, by decide +kernel, rfl, by decide +kernel, by decide +kernel⟩ (fun _ _ _ _ _ _ us hl => match us, hl with | [_, _], _ => rfl) rfl rfl rfl (by decide +kernel)
theorem fs_125 (KX : K.In h) (G : h.Ns mainGlobals mg) (c : He.SaysX fa fn ts [] moreB w h K) : FnS (mx P w K mg base) L 60 40 125 "read" :=
  fnS_of (F := F_read) (N := ["text", "lines", "parts", "at", "part"]) (ps := ["text"]) KX G c.t.d (d := d_read) 9 rfl rfl rfl rfl (by decide +kernel) ⟨rfl, rfl, rfl, by decide +kernel, rfl, by decide +kernel, by decide +kernel⟩ (fun _ _ _ _ _ _ us hl => match us, hl with | [_], _ => rfl) rfl rfl rfl (by decide +kernel)
theorem fs_127 (KX : K.In h) (G : h.Ns mainGlobals mg) (c : He.SaysX fa fn ts [] moreB w h K) : FnS (mx P w K mg base) L 60 40 127 "_law_told" :=
  fnS_of (F := F_law_told_k10) (N := ["_law_text", "_law_told_here", "e"]) (ps := ["_law_text"]) KX G c.t.d (d := d_law_told) 12 rfl rfl rfl rfl (by decide +kernel) ⟨rfl, rfl, rfl, by decide +kernel, rfl, by decide +kernel, by decide +kernel⟩ (fun _ _ _ _ _ _ us hl => match us, hl with | [_], _ => rfl) rfl rfl rfl (by decide +kernel)
theorem law_no_fn : True := True.intro
theorem mk_0 (KX : K.In h) (G : h.Ns mainGlobals mg) (c : He.SaysX fa fn ts [] moreB w h K) : MkS (mx P w K mg base) L 60 40 10 4 [] := by
  obtain ⟨fd, F⟩ := c.t.d.def_ 15 (d := d_Lot_init) rfl
  obtain ⟨ds, v1, b1⟩ := FunD.binds1 (ps := ["self", "barred", "first", "second", "rule", "passes"]) F 6 2 (by simp [He.DefD.dvs, d_Lot_init]) rfl (fun _ _ _ _ _ _ _ us its h1 h2 => match us, its, h1, h2 with | [_, _, _, _, _, _], [_, _], _, _ => ⟨_, rfl, rfl⟩)
  exact ⟨_, fd, _, _, _, _, _, _, _, ["self", "barred", "first", "second", "rule", "passes"], ["self", "barred", "first", "second", "rule", "passes"], F_Lot_init, _, ds, F, ⟨rfl, rfl, rfl, by decide +kernel, rfl, by decide +kernel, by decide +kernel⟩, He.mkr_ok (faHas_ok c.t.d (f := .mkr "Lot") (by decide +kernel)), b1, v1, fun F m => At.nil, rfl, rfl, rfl, by decide +kernel⟩
theorem mk_3 (KX : K.In h) (G : h.Ns mainGlobals mg) (c : He.SaysX fa fn ts [] moreB w h K) : MkS (mx P w K mg base) L 60 40 10 4 [(.str [108, 111, 115, 101, 115]), (.int 0)] := by
  obtain ⟨fd, F⟩ := c.t.d.def_ 15 (d := d_Lot_init) rfl
  obtain ⟨ds, v1, b1⟩ := FunD.binds1 (ps := ["self", "barred", "first", "second", "rule", "passes"]) F 4 0 (by simp [He.DefD.dvs, d_Lot_init]) rfl (fun _ _ _ _ _ _ _ us its h1 h2 => match us, its, h1, h2 with | [_, _, _, _], [_, _], _, _ => ⟨_, rfl, rfl⟩)
  exact ⟨_, fd, _, _, _, _, _, _, _, ["self", "barred", "first", "second", "rule", "passes"], ["self", "barred", "first", "second", "rule", "passes"], F_Lot_init, _, ds, F, ⟨rfl, rfl, rfl, by decide +kernel, rfl, by decide +kernel, by decide +kernel⟩, He.mkr_ok (faHas_ok c.t.d (f := .mkr "Lot") (by decide +kernel)), b1, v1, fun F m => (At.cons (R := Rep (mx P w K mg base) F m) (rep_lit (by kernel_rfl)) (At.cons (R := Rep (mx P w K mg base) F m) (.int 0) At.nil)), rfl, rfl, rfl, by decide +kernel⟩
theorem mk_4 (KX : K.In h) (G : h.Ns mainGlobals mg) (c : He.SaysX fa fn ts [] moreB w h K) : MkS (mx P w K mg base) L 60 40 10 4 [(.int 0)] := by
  obtain ⟨fd, F⟩ := c.t.d.def_ 15 (d := d_Lot_init) rfl
  obtain ⟨ds, v1, b1⟩ := FunD.binds1 (ps := ["self", "barred", "first", "second", "rule", "passes"]) F 5 1 (by simp [He.DefD.dvs, d_Lot_init]) rfl (fun _ _ _ _ _ _ _ us its h1 h2 => match us, its, h1, h2 with | [_, _, _, _, _], [_, _], _, _ => ⟨_, rfl, rfl⟩)
  exact ⟨_, fd, _, _, _, _, _, _, _, ["self", "barred", "first", "second", "rule", "passes"], ["self", "barred", "first", "second", "rule", "passes"], F_Lot_init, _, ds, F, ⟨rfl, rfl, rfl, by decide +kernel, rfl, by decide +kernel, by decide +kernel⟩, He.mkr_ok (faHas_ok c.t.d (f := .mkr "Lot") (by decide +kernel)), b1, v1, fun F m => (At.cons (R := Rep (mx P w K mg base) F m) (.int 0) At.nil), rfl, rfl, rfl, by decide +kernel⟩
theorem dr_ok (KX : K.In h) (G : h.Ns mainGlobals mg) (c : He.SaysX fa fn ts [] moreB w h K) : ∃ ps, FnC (mx P w K mg base) "_law_draw" ps 3 conDraw := by
  obtain ⟨fd, F⟩ := c.t.d.def_ 11 (d := d_law_draw) rfl
  exact ⟨["_law_draws", "_law_size"], _, fd, draw_ok (M := mx P w K mg base) (N := ["_law_draws", "_law_size", "_law_found", "_law_cell"]) F ⟨rfl, rfl, rfl, by decide +kernel, rfl, by decide +kernel, by decide +kernel⟩ rfl rfl (He.free_ok KX G (faHas_ok c.t.d (by decide +kernel))) (He.free_ok KX G (faHas_ok c.t.d (by decide +kernel))) (by decide +kernel), He.glo_ok KX G (faHas_ok c.t.d (f := .glo "_law_draw") (by decide +kernel)), F.kp, F.bindsN fun _ _ _ _ _ _ us hl => match us, hl with | [_, _], _ => rfl⟩
theorem prg (KX : K.In h) (G : h.Ns mainGlobals mg) (c : He.SaysX fa fn ts [] moreB w h K) : Prg (mx P w K mg base) L 60 40 :=
  ⟨fac_ok KX G c, fun _ => dr_ok KX G c, fun f x e => by
    have := fnAll_get (i := 0) (l := L.fnm) (M := mx P w K mg base) (L := L) (m := 60) (n := 40) (And.intro (fs_0 KX G c) (And.intro (fs_1 KX G c) (And.intro (fs_2 KX G c) (And.intro (fs_3 KX G c) (And.intro (fs_121 KX G c) (And.intro (fs_122 KX G c) (And.intro (fs_123 KX G c) (And.intro (fs_124 KX G c) (And.intro (fs_125 KX G c) (And.intro (fs_127 KX G c) True.intro)))))))))) f x e
    rwa [Nat.zero_add] at this, mkAll_get (l := L.pg.mks) (M := mx P w K mg base) (L := L) (m := 60) (n := 40) (And.intro (fun _ => mk_0 KX G c) (And.intro (fun z => absurd z (by decide)) (And.intro (fun z => absurd z (by decide)) (And.intro (fun _ => mk_3 KX G c) (And.intro (fun _ => mk_4 KX G c) True.intro)))))⟩
theorem run_n : (lawRun pg 60 40 5000 40 128 1).drN = some 3 := by decide +kernel
theorem run_n0 : ((lawRun pg 60 40 5000 40 128 1).at_ 0).drN = some 12 := by decide +kernel
theorem run_0_0 : (((lawRun pg 60 40 5000 40 128 1).at_ 0).at_ 0).goodB isRtT = true := by decide +kernel
theorem run_0_1 : (((lawRun pg 60 40 5000 40 128 1).at_ 0).at_ 1).goodB isRtT = true := by decide +kernel
theorem run_0_2 : (((lawRun pg 60 40 5000 40 128 1).at_ 0).at_ 2).goodB isRtT = true := by decide +kernel
theorem run_0_3 : (((lawRun pg 60 40 5000 40 128 1).at_ 0).at_ 3).goodB isRtT = true := by decide +kernel
theorem run_0_4 : (((lawRun pg 60 40 5000 40 128 1).at_ 0).at_ 4).goodB isRtT = true := by decide +kernel
theorem run_0_5 : (((lawRun pg 60 40 5000 40 128 1).at_ 0).at_ 5).goodB isRtT = true := by decide +kernel
theorem run_0_6 : (((lawRun pg 60 40 5000 40 128 1).at_ 0).at_ 6).goodB isRtT = true := by decide +kernel
theorem run_0_7 : (((lawRun pg 60 40 5000 40 128 1).at_ 0).at_ 7).goodB isRtT = true := by decide +kernel
theorem run_0_8 : (((lawRun pg 60 40 5000 40 128 1).at_ 0).at_ 8).goodB isRtT = true := by decide +kernel
theorem run_0_9 : (((lawRun pg 60 40 5000 40 128 1).at_ 0).at_ 9).goodB isRtT = true := by decide +kernel
theorem run_0_10 : (((lawRun pg 60 40 5000 40 128 1).at_ 0).at_ 10).goodB isRtT = true := by decide +kernel
theorem run_0_11 : (((lawRun pg 60 40 5000 40 128 1).at_ 0).at_ 11).goodB isRtT = true := by decide +kernel
theorem run_0 : ((lawRun pg 60 40 5000 40 128 1).at_ 0).goodB isRtT = true := T.goodB_at run_n0 fun i h => match i, h with
  | 0, _ => run_0_0
  | 1, _ => run_0_1
  | 2, _ => run_0_2
  | 3, _ => run_0_3
  | 4, _ => run_0_4
  | 5, _ => run_0_5
  | 6, _ => run_0_6
  | 7, _ => run_0_7
  | 8, _ => run_0_8
  | 9, _ => run_0_9
  | 10, _ => run_0_10
  | 11, _ => run_0_11
  | k + 12, h => absurd h (by omega)
theorem run_n1 : ((lawRun pg 60 40 5000 40 128 1).at_ 1).drN = some 8 := by decide +kernel
theorem run_1_0 : (((lawRun pg 60 40 5000 40 128 1).at_ 1).at_ 0).goodB isRtT = true := by decide +kernel
theorem run_1_1 : (((lawRun pg 60 40 5000 40 128 1).at_ 1).at_ 1).goodB isRtT = true := by decide +kernel
theorem run_1_2 : (((lawRun pg 60 40 5000 40 128 1).at_ 1).at_ 2).goodB isRtT = true := by decide +kernel
theorem run_1_3 : (((lawRun pg 60 40 5000 40 128 1).at_ 1).at_ 3).goodB isRtT = true := by decide +kernel
theorem run_1_4 : (((lawRun pg 60 40 5000 40 128 1).at_ 1).at_ 4).goodB isRtT = true := by decide +kernel
theorem run_1_5 : (((lawRun pg 60 40 5000 40 128 1).at_ 1).at_ 5).goodB isRtT = true := by decide +kernel
theorem run_1_6 : (((lawRun pg 60 40 5000 40 128 1).at_ 1).at_ 6).goodB isRtT = true := by decide +kernel
theorem run_1_7 : (((lawRun pg 60 40 5000 40 128 1).at_ 1).at_ 7).goodB isRtT = true := by decide +kernel
theorem run_1 : ((lawRun pg 60 40 5000 40 128 1).at_ 1).goodB isRtT = true := T.goodB_at run_n1 fun i h => match i, h with
  | 0, _ => run_1_0
  | 1, _ => run_1_1
  | 2, _ => run_1_2
  | 3, _ => run_1_3
  | 4, _ => run_1_4
  | 5, _ => run_1_5
  | 6, _ => run_1_6
  | 7, _ => run_1_7
  | k + 8, h => absurd h (by omega)
theorem run_n2 : ((lawRun pg 60 40 5000 40 128 1).at_ 2).drN = some 11 := by decide +kernel
theorem run_2_0 : (((lawRun pg 60 40 5000 40 128 1).at_ 2).at_ 0).goodB isRtT = true := by decide +kernel
theorem run_2_1 : (((lawRun pg 60 40 5000 40 128 1).at_ 2).at_ 1).goodB isRtT = true := by decide +kernel
theorem run_2_2 : (((lawRun pg 60 40 5000 40 128 1).at_ 2).at_ 2).goodB isRtT = true := by decide +kernel
theorem run_2_3 : (((lawRun pg 60 40 5000 40 128 1).at_ 2).at_ 3).goodB isRtT = true := by decide +kernel
theorem run_2_4 : (((lawRun pg 60 40 5000 40 128 1).at_ 2).at_ 4).goodB isRtT = true := by decide +kernel
theorem run_2_5 : (((lawRun pg 60 40 5000 40 128 1).at_ 2).at_ 5).goodB isRtT = true := by decide +kernel
theorem run_2_6 : (((lawRun pg 60 40 5000 40 128 1).at_ 2).at_ 6).goodB isRtT = true := by decide +kernel
theorem run_2_7 : (((lawRun pg 60 40 5000 40 128 1).at_ 2).at_ 7).goodB isRtT = true := by decide +kernel
theorem run_2_8 : (((lawRun pg 60 40 5000 40 128 1).at_ 2).at_ 8).goodB isRtT = true := by decide +kernel
theorem run_2_9 : (((lawRun pg 60 40 5000 40 128 1).at_ 2).at_ 9).goodB isRtT = true := by decide +kernel
theorem run_2_10 : (((lawRun pg 60 40 5000 40 128 1).at_ 2).at_ 10).goodB isRtT = true := by decide +kernel
theorem run_2 : ((lawRun pg 60 40 5000 40 128 1).at_ 2).goodB isRtT = true := T.goodB_at run_n2 fun i h => match i, h with
  | 0, _ => run_2_0
  | 1, _ => run_2_1
  | 2, _ => run_2_2
  | 3, _ => run_2_3
  | 4, _ => run_2_4
  | 5, _ => run_2_5
  | 6, _ => run_2_6
  | 7, _ => run_2_7
  | 8, _ => run_2_8
  | 9, _ => run_2_9
  | 10, _ => run_2_10
  | k + 11, h => absurd h (by omega)
theorem run_ok : (lawRun pg 60 40 5000 40 128 1).goodB isRtT = true := T.goodB_at run_n fun i h => match i, h with
  | 0, _ => run_0
  | 1, _ => run_1
  | 2, _ => run_2
  | k + 3, h => absurd h (by omega)
theorem law_ok (KX : K.In h) (G : h.Ns mainGlobals mg) (c : He.SaysX fa fn ts [] moreB w h K) : ∃ fd : FuncData, FunD K "law" "law" (defArgs s_law) (defBody s_law) (defScope s_law) [] [] (He.ga K "law") fd ∧ FnOk P w K mg base (L2.CX P w) 85 (He.ga K "law") fd ["_law_script"] (spLaw K) := by
  obtain ⟨fd, F⟩ := c.t.d.def_ 13 (d := d_law) rfl
  obtain ⟨fdb, FB⟩ := c.t.d.def_ 10 (d := d_law_begin) rfl
  have PR := prg (P := P) (w := w) (mg := mg) (base := base) KX G c
  refine ⟨fd, F, law_ok0 (M := mx P w K mg base) (L := L) (N := ["_law_script", "_law_draws", "_law_lines", "_law_first", "_law_second", "_law_third", "_law_at", "_law_rows", "_law_spoilt", "_law_size"]) (F := F_law_k10) (f := 128) (dr := 1) (fuel := 5000) (prg_ok PR 40) PR.fac F ⟨rfl, rfl, rfl, by decide +kernel, rfl, by decide +kernel, by decide +kernel⟩ (begin_ok0 FB ⟨rfl, rfl, rfl, by decide +kernel, rfl, by decide +kernel, by decide +kernel⟩ (He.free_ok KX G (faHas_ok c.t.d (by decide +kernel))) (by decide +kernel) (by decide +kernel) (by decide +kernel) (by decide +kernel)) (He.glo_ok KX G (faHas_ok c.t.d (f := .glo "_law_begin") (by decide +kernel))) FB.kp (FB.bindsN fun _ _ _ _ _ _ us hl => match us, hl with | [_], _ => rfl) rfl rfl rfl rfl (by decide) (by decide +kernel) (by decide +kernel) (by decide +kernel) (by decide +kernel) (by decide +kernel) (by decide +kernel) (by decide +kernel) run_ok⟩
end
end Wt
open PySem PySem.W PySem.Calls PyProof.Rows
set_option maxRecDepth 100000 in
theorem PySem.Challenge.cw_wordturns_k10_texts_refused_holds : PySem.Challenge.rw_wordturns_k10_texts_refused.Holds := by
  w_on; o_law
  refine HandSHeadRun.head_any (r := OpenLaw.row PySem.Challenge.rw_wordturns_k10_texts_refused) (q := view (OpenLaw.row PySem.Challenge.rw_wordturns_k10_texts_refused).prog [24]) (H := Wt.hk) (ob := Wt.ob) (M := 6000) (loose := Wt.loose) (d := HandSHeadRun.topDef (OpenLaw.row PySem.Challenge.rw_wordturns_k10_texts_refused).prog 24) (kwd := []) Wt.ob_eq
    (by kernel_rfl) (fun s => by kernel_rfl) Wt.run (by kernel_rfl) (by kernel_rfl) (by kernel_rfl) (by rfl) (by first | assumption | decide +kernel) (by decide +kernel) ⟨rfl, rfl, rfl, rfl, rfl, by decide +kernel⟩ ?hw ?hc
  case hw => w_witness2
  case hc =>
    refine LamX.walk_ofTsE (l := PySem.Challenge.rw_wordturns_k10_texts_refused) (n := 63) (k := 85) (x := "_law_script") (CX := fun w => L2.CX (PySem.Challenge.rw_wordturns_k10_texts_refused).prog w) rfl (by decide) (by kernel_rfl) ⟨rfl, by decide, by decide⟩ ?F (fun w H s e s' z => Yl.cx_no z)
    intro w mg fa h Y G hmg0
    obtain ⟨K, KX, c⟩ := Y
    have hmg : mg ("law" : PySem.Str) = some (.ref fa) := by
      have e : (HandSHeadRun.topDef (OpenLaw.row PySem.Challenge.rw_wordturns_k10_texts_refused).prog 24).name = ("law" : PySem.Str) := by kernel_rfl
      rw [← e]
      exact hmg0
    have e2 := hmg.symm.trans (He.glo_ok KX G (Yl.faHas_ok c.t.d (f := .glo "law") (by decide +kernel)))
    cases e2
    obtain ⟨fd, FD, _⟩ := Wt.law_ok (P := (PySem.Challenge.rw_wordturns_k10_texts_refused).prog) (w := w) (base := h) KX G c
    have hb := L2.FunD.bindsA (ps := ["_law_script"]) FD fun _ _ _ _ _ _ us hl => match us, hl with | [_], _ => rfl
    refine ⟨K, KX, fd, [], Yl.spLaw K, (fun p hp => nomatch hp), (fun p hp => nomatch hp), (fun p hp => nomatch hp), fun s u => hb s [u] rfl, fun H a ns hl _ _ hS => ⟨a, ns, rfl, hS, fun _ => rfl⟩, fun base' _ _ _ => ?_⟩
    obtain ⟨fd2, FD2, F2⟩ := Wt.law_ok (P := (PySem.Challenge.rw_wordturns_k10_texts_refused).prog) (w := w) (base := base') KX G c
    have e3 : fd2 = fd := Yl.fd_eq FD2 FD
    subst e3
    exact F2
