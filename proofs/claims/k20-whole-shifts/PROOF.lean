import PyProof.Rows.All
import Wide.All
import OpenK.AllK
import Wide.FinOn
import HandS.ForMost
import HandS.ForExc
import HandS.Walk
import HandS.TupAny
import HandS.TupMul
import HandS.Style
import HandS.Wide
import HandS.IsInst
import HandS.Zip
import PyProof.Draws
import KE.SortData
import HandS.SortInts
import HandS.SetFor
import HandS.TupSets
import HandS.Sort
import KE.KRevSl
import HandS.ExcIs
import HandS.Strs
import HandS.Dict
import HandS.Iter
import HandS.Small
import HandS.DictComp
import KE.KDictZip
import KE.DataMinMax
import KE.DataCmp
import HandS.Deep
import PySem.Challenge.RW_ringtimes_k20_whole_shifts
set_option Elab.async false
set_option linter.all false
set_option maxRecDepth 100000
set_option maxHeartbeats 4000000
/-! D0: plain values, results, the meaning of expressions and statements as plain functions. No machine in sight. -/
namespace RT
abbrev Str := PySem.Str
inductive D where
  | non | bl (b : Bool) | int (i : Int) | str (s : Str) | tup (xs : List D) | lst (xs : List D) | exc (c : Str) (a : Nat) | fn (f : Str) | scr (ns : List Int)
  /-- a dict of whole numbers, each with True; a dict of tuples; a clock: its row, its time, what was done and undone -/
  | dct (ks : List Int) | dtt (kss : List (List Int)) | clk (row : D) (now : Int) (done undone : List D)
inductive R (α : Type) where
  | ok (a : α) | err (c : Str) | stuck
namespace R
def bind {α β : Type} : R α → (α → R β) → R β
  | .ok a, f => f a
  | .err c, _ => .err c
  | .stuck, _ => .stuck
def map {α β : Type} (f : α → β) (x : R α) : R β := x.bind fun a => .ok (f a)
@[simp] theorem bind_ok {α β : Type} (a : α) (f : α → R β) : (R.ok a).bind f = f a := id rfl
@[simp] theorem bind_err {α β : Type} (c : Str) (f : α → R β) : (R.err c : R α).bind f = .err c := id rfl
@[simp] theorem bind_stuck {α β : Type} (f : α → R β) : (R.stuck : R α).bind f = .stuck := id rfl
@[simp] theorem map_ok {α β : Type} (a : α) (f : α → β) : (R.ok a).map f = .ok (f a) := id rfl
@[simp] theorem map_err {α β : Type} (c : Str) (f : α → β) : (R.err c : R α).map f = .err c := id rfl
@[simp] theorem map_stuck {α β : Type} (f : α → β) : (R.stuck : R α).map f = .stuck := id rfl
end R
/-- the longest list, tuple, text -/
def lim : Nat := 16777216
abbrev Env := List (Option D)
inductive Out where
  | nx (ρ : Env) | rt (d : D) | er (c : Str) (ρ : Env) | stuck

/-! ### values -/
namespace D
mutual
/-- Python's == of data -/
def eqv : D → D → Bool
  | .non, .non => true
  | .bl a, .bl b => a == b
  | .bl a, .int j => (if a then 1 else 0) == j
  | .int i, .bl b => i == (if b then 1 else 0)
  | .int i, .int j => i == j
  | .str x, .str y => x == y
  | .lst xs, .lst ys => eqvL xs ys
  | .tup xs, .tup ys => eqvL xs ys
  | .scr ns, .lst [] => ns.isEmpty
  | _, _ => false
def eqvL : List D → List D → Bool
  | [], [] => true
  | x :: xs, y :: ys => eqv x y && eqvL xs ys
  | _, _ => false
end
/-- signs of a text that may be compared -/
def okStr (s : Str) : Bool := s.cps.toList.all fun c => decide (c < 1114112) && decide (s.cps.size ≤ 16777216)
mutual
/-- data of a nesting of at most n -/
def sh : D → Nat → Bool
  | .non, _ => true
  | .bl _, _ => true
  | .int _, _ => true
  | .str s, _ => okStr s
  | .lst xs, n => decide (0 < n) && shL xs (n - 1)
  | .tup xs, n => decide (0 < n) && shL xs (n - 1)
  | .exc _ _, _ => false
  | .fn _, _ => false
  | .dct _, _ => false
  | .dtt _, _ => false
  | .clk _ _ _ _, _ => false
  | .scr _, n => decide (0 < n)
def shL : List D → Nat → Bool
  | [], _ => true
  | x :: xs, n => sh x n && shL xs n
end
def shaped (d : D) : Bool := sh d 60
mutual
def noScr : D → Bool
  | .scr _ => false
  | .lst xs => noScrL xs
  | .tup xs => noScrL xs
  | _ => true
def noScrL : List D → Bool
  | [] => true
  | x :: xs => noScr x && noScrL xs
end
/-- the script is held against the empty list alone -/
def okEq : D → D → Bool
  | .scr _, .lst [] => true
  | a, b => noScr a && noScr b
/-- a == b -/
def eq (a b : D) : R D := if shaped a && shaped b && okEq a b then .ok (.bl (eqv a b)) else .stuck
def ne (a b : D) : R D := if shaped a && shaped b && okEq a b then .ok (.bl (!eqv a b)) else .stuck
def cmp (p : Int → Int → Bool) : D → D → R D
  | .int i, .int j => .ok (.bl (p i j))
  | _, _ => .stuck
def lt : D → D → R D := cmp fun i j => decide (i < j)
def le : D → D → R D := cmp fun i j => decide (i ≤ j)
def gt : D → D → R D := cmp fun i j => decide (j < i)
def ge : D → D → R D := cmp fun i j => decide (j ≤ i)
/-- a is b, b a bool -/
def isB : D → D → R D
  | .bl a, .bl b => .ok (.bl (decide (a = b)))
  | _, _ => .stuck
def isNotB : D → D → R D
  | .bl a, .bl b => .ok (.bl (!decide (a = b)))
  | _, _ => .stuck
def isNone : D → Bool
  | .non => true
  | _ => false
def small (i : Int) : Bool := decide (-(2 ^ 64) < i) && decide (i < 2 ^ 64)
def add : D → D → R D
  | .int i, .int j => .ok (.int (i + j))
  | .tup xs, .tup ys => if xs.length + ys.length ≤ lim then .ok (.tup (xs ++ ys)) else .stuck
  | .lst xs, .lst ys => if xs.length + ys.length ≤ lim then .ok (.lst (xs ++ ys)) else .stuck
  | .str x, .str y => if x.length + y.length ≤ lim then .ok (.str (x ++ y)) else .stuck
  | _, _ => .stuck
def sub : D → D → R D
  | .int i, .int j => .ok (.int (i - j))
  | _, _ => .stuck
def mul : D → D → R D
  | .int i, .int j => if small i || small j then .ok (.int (i * j)) else .stuck
  | .tup xs, .int k => if !xs.isEmpty && decide (2 ≤ k) && decide (k ≤ 1000) && decide (xs.length ≤ 1000) then .ok (.tup (List.replicate k.toNat xs).flatten) else .stuck
  | .lst xs, .int k => if decide (-(2 ^ 63) ≤ k) && decide (k < 2 ^ 63) && decide (xs.length * k.toNat ≤ lim) then .ok (.lst (List.replicate k.toNat xs).flatten) else .stuck
  | _, _ => .stuck
def fdiv : D → D → R D
  | .int i, .int j => if decide (0 < j) && decide (j < 2 ^ 64) then .ok (.int (i / j)) else .stuck
  | _, _ => .stuck
def mod : D → D → R D
  | .int i, .int j => if 0 < j then .ok (.int (i % j)) else .stuck
  | _, _ => .stuck
def pow : D → D → R D
  | .int i, .int j => if decide (0 ≤ j) && decide (j ≤ 1000000) && decide (i.natAbs < 2 ^ 64) then .ok (.int (i ^ j.toNat)) else .stuck
  | _, _ => .stuck
def neg : D → R D
  | .int i => .ok (.int (-i))
  | _ => .stuck
def asB : D → R Bool
  | .bl b => .ok b
  | _ => .stuck
def items : D → R (List D)
  | .lst xs => .ok xs
  | .tup xs => .ok xs
  | _ => .stuck
/-- xs[i], i from either end -/
def at? (xs : List D) (i : Int) : R D :=
  if 0 ≤ i then (match xs[i.toNat]? with | some d => .ok d | none => .stuck)
  else if 0 ≤ i + xs.length then (match xs[(i + xs.length).toNat]? with | some d => .ok d | none => .stuck) else .stuck
def idx : D → D → R D
  | .lst xs, .int i => at? xs i
  | .tup xs, .int i => at? xs i
  | .scr ns, .int i => at? (ns.map .int) i
  | _, _ => .stuck
def len : D → R D
  | .lst xs => .ok (.int xs.length)
  | .tup xs => .ok (.int xs.length)
  | .scr ns => .ok (.int ns.length)
  | .str s => if s.length ≤ lim then .ok (.int s.length) else .stuck
  | _ => .stuck
/-! built-ins -/
inductive Ty where
  | int | bool | tuple | list | str
def isI : Ty → D → R D
  | _, .exc _ _ => .stuck
  | _, .fn _ => .stuck
  | _, .scr _ => .stuck
  | _, .dct _ => .stuck
  | _, .dtt _ => .stuck
  | _, .clk _ _ _ _ => .stuck
  | .int, .int _ => .ok (.bl true)
  | .int, .bl _ => .ok (.bl true)
  | .bool, .bl _ => .ok (.bl true)
  | .tuple, .tup _ => .ok (.bl true)
  | .list, .lst _ => .ok (.bl true)
  | .str, .str _ => .ok (.bl true)
  | _, _ => .ok (.bl false)
def intsOf : List D → Option (List Int)
  | [] => some []
  | .int i :: r => (intsOf r).map (i :: ·)
  | _ :: _ => none
def blsOf : List D → Option (List Bool)
  | [] => some []
  | .bl i :: r => (blsOf r).map (i :: ·)
  | _ :: _ => none
def maxI : List Int → Int
  | [] => 0
  | [x] => x
  | x :: y :: r => let m := maxI (y :: r); if m < x then x else m
def minI : List Int → Int
  | [] => 0
  | [x] => x
  | x :: y :: r => let m := minI (y :: r); if x < m then x else m
def bLen : List D → R D
  | [d] => len d
  | _ => .stuck
def bAbs : List D → R D
  | [.int i] => .ok (.int (if i < 0 then -i else i))
  | _ => .stuck
def bMax2 : List D → R D
  | [.int i, .int j] => .ok (.int (if j > i then j else i))
  | _ => .stuck
def bMin2 : List D → R D
  | [.int i, .int j] => .ok (.int (if j < i then j else i))
  | _ => .stuck
def onInts (f : List Int → R D) : List D → R D
  | [.lst xs] => match intsOf xs with
    | some ns => f ns
    | none => .stuck
  | _ => .stuck
def bSum : List D → R D := onInts fun ns => .ok (.int ns.sum)
def bMax : List D → R D := onInts fun ns => if ns.isEmpty then .stuck else .ok (.int (maxI ns))
def bMin : List D → R D := onInts fun ns => if ns.isEmpty then .stuck else .ok (.int (minI ns))
def onBls (f : List Bool → R D) : List D → R D
  | [.lst xs] => match blsOf xs with
    | some ns => f ns
    | none => .stuck
  | _ => .stuck
def bAny : List D → R D := onBls fun bs => .ok (.bl (bs.any id))
def bAll : List D → R D := onBls fun bs => .ok (.bl (bs.all id))
def bTuple : List D → R D
  | [.lst xs] => .ok (.tup xs)
  | [.tup xs] => .ok (.tup xs)
  | _ => .stuck
def bList : List D → R D
  | [.lst xs] => .ok (.lst xs)
  | [.tup xs] => .ok (.lst xs)
  | _ => .stuck
/-! slices -/
/-- a bound among n places -/
def cutAt (n d : Nat) : Option Int → Nat
  | none => d
  | some v => if 0 ≤ v then min n v.toNat else ((n : Int) + v).toNat
def cutL {α : Type} (xs : List α) (lo hi : Option Int) : List α := (xs.drop (cutAt xs.length 0 lo)).take (cutAt xs.length xs.length hi - cutAt xs.length 0 lo)
def cut (lo hi : Option Int) : D → R D
  | .lst xs => .ok (.lst (cutL xs lo hi))
  | .tup xs => .ok (.tup (cutL xs lo hi))
  | _ => .stuck
def rev : D → R D
  | .lst xs => .ok (.lst xs.reverse)
  | .tup xs => .ok (.tup xs.reverse)
  | _ => .stuck
/-- list * bool -/
def mulB : D → D → R D
  | .lst xs, .bl k => .ok (.lst (if k = true then xs else []))
  | _, _ => .stuck
/-- tuples of ints, none empty -/
def tupsOf : List D → Option (List (List Int))
  | [] => some []
  | .tup (x :: xs) :: r => match intsOf (x :: xs) with
    | some l => (tupsOf r).map (l :: ·)
    | none => none
  | _ :: _ => none
def upI (a b : Int) : Bool := decide (a ≤ b)
def upL (a b : List Int) : Bool := decide (a ≤ b)
def tupI (l : List Int) : D := .tup (l.map .int)
def bSorted : List D → R D
  | [.lst xs] => match intsOf xs with
    | some ns => .ok (.lst ((ns.mergeSort upI).map .int))
    | none => match tupsOf xs with
      | some ls => .ok (.lst ((ls.mergeSort upL).map tupI))
      | none => .stuck
  | _ => .stuck
/-- each once -/
def once {α : Type} [DecidableEq α] : List α → List α
  | [] => []
  | x :: xs => if x ∈ xs then once xs else x :: once xs
def fewI (l : List Int) : Bool := l.all fun i => decide (0 ≤ i) && decide (i < 64)
/-- sorted(set(xs)) -/
def bSortSet : List D → R D
  | [.lst xs] => match intsOf xs with
    | some ns => if ns.length < 4000 then .ok (.lst (((once ns).mergeSort upI).map .int)) else .stuck
    | none => match tupsOf xs with
      | some ls => if decide ((once ls).length < 63) && (ls.all fun l => fewI l && decide (l.length = (ls.headD []).length)) then .ok (.lst (((once ls).mergeSort upL).map tupI)) else .stuck
      | none => .stuck
  | _ => .stuck
/-- xs.count(k), xs.index(k): whole numbers -/
def count : D → D → R D
  | .lst xs, .int k => match intsOf xs with
    | some ns => .ok (.int (ns.count k : Nat))
    | none => .stuck
  | _, _ => .stuck
def index : D → D → R D
  | .lst xs, .int k => match intsOf xs with
    | some ns => if ns.contains k then .ok (.int (ns.idxOf k : Nat)) else .stuck
    | none => .stuck
  | _, _ => .stuck
/-- k in xs: whole numbers -/
def isIn : D → D → R D
  | .int k, .lst xs => match intsOf xs with
    | some ns => .ok (.bl (ns.contains k))
    | none => .stuck
  | .int k, .tup xs => match intsOf xs with
    | some ns => .ok (.bl (ns.contains k))
    | none => .stuck
  | _, _ => .stuck
def notIn : D → D → R D
  | .int k, .lst xs => match intsOf xs with
    | some ns => .ok (.bl (!ns.contains k))
    | none => .stuck
  | .int k, .tup xs => match intsOf xs with
    | some ns => .ok (.bl (!ns.contains k))
    | none => .stuck
  | _, _ => .stuck
/-- k in d -/
def dIn : D → D → R D
  | .int k, .dct ks => .ok (.bl (ks.contains k))
  | .tup xs, .dtt kss => match intsOf xs with
    | some l => .ok (.bl (kss.contains l))
    | none => .stuck
  | _, _ => .stuck
def dNotIn : D → D → R D
  | .int k, .dct ks => .ok (.bl (!ks.contains k))
  | .tup xs, .dtt kss => match intsOf xs with
    | some l => .ok (.bl (!kss.contains l))
    | none => .stuck
  | _, _ => .stuck
/-- d[k] = True -/
def dput (ks : List Int) (k : Int) : List Int := if ks.contains k = true then ks else ks ++ [k]
end D

/-! ### expressions -/
abbrev EF := Env → R D
abbrev TF := Env → R Bool
abbrev AF := Env → R (List D)
def eC (d : D) : EF := fun _ => .ok d
def eV (i : Nat) : EF := fun ρ => match ρ[i]? with
  | some (some d) => .ok d
  | _ => .stuck
def e1 (op : D → R D) (f : EF) : EF := fun ρ => (f ρ).bind op
def e2 (op : D → D → R D) (f g : EF) : EF := fun ρ => (f ρ).bind fun x => (g ρ).bind fun y => op x y
def aN : AF := fun _ => .ok []
def aC (f : EF) (g : AF) : AF := fun ρ => (f ρ).bind fun x => (g ρ).bind fun xs => .ok (x :: xs)
def eTup (a : AF) : EF := fun ρ => (a ρ).bind fun xs => if xs.length ≤ lim then .ok (.tup xs) else .stuck
def eLst (a : AF) : EF := fun ρ => (a ρ).bind fun xs => if xs.length ≤ lim then .ok (.lst xs) else .stuck
/-- a call: by values -/
def eF (F : List D → R D) (a : AF) : EF := fun ρ => (a ρ).bind F
def eNone (f : EF) : EF := fun ρ => (f ρ).bind fun x => .ok (.bl x.isNone)
def eNotNone (f : EF) : EF := fun ρ => (f ρ).bind fun x => .ok (.bl (!x.isNone))
def eAnd (f g : EF) : EF := fun ρ => (f ρ).bind fun x => x.asB.bind fun b => if b = true then g ρ else .ok (.bl false)
def eOr (f g : EF) : EF := fun ρ => (f ρ).bind fun x => x.asB.bind fun b => if b = true then .ok (.bl true) else g ρ
def eNot (f : EF) : EF := fun ρ => (f ρ).bind fun x => x.asB.bind fun b => .ok (.bl (!b))
def eIf (t : TF) (f g : EF) : EF := fun ρ => (t ρ).bind fun b => if b = true then f ρ else g ρ
/-- a < b < c -/
def eChain (op op' : D → D → R D) (f g h : EF) : EF := fun ρ => (f ρ).bind fun x => (g ρ).bind fun y => (op x y).bind fun z => z.asB.bind fun b =>
  if b = true then (h ρ).bind fun w => op' y w else .ok (.bl false)
/-- xs.index(True): a list of truth values -/
def eIdxB (f : EF) : EF := fun ρ => (f ρ).bind fun x => match x with
  | .lst xs => match D.blsOf xs with
    | some bs => if bs.contains true then .ok (.int (bs.idxOf true : Nat)) else .stuck
    | none => .stuck
  | _ => .stuck
/-- x.m(y), x a list of whole numbers -/
def eMth (op : D → D → R D) (f g : EF) : EF := fun ρ => (f ρ).bind fun x => match x with
  | .lst xs => match D.intsOf xs with
    | some _ => (g ρ).bind fun y => op x y
    | none => .stuck
  | _ => .stuck
abbrev OF := Env → R (Option Int)
def oN : OF := fun _ => .ok none
def oS (f : EF) : OF := fun ρ => (f ρ).bind fun d => match d with
  | .int i => .ok (some i)
  | _ => .stuck
/-- x[lo:hi] -/
def eCut (f : EF) (l u : OF) : EF := fun ρ => (f ρ).bind fun x => (l ρ).bind fun lo => (u ρ).bind fun hi => D.cut lo hi x
def tV (f : EF) : TF := fun ρ => (f ρ).bind D.asB
def tAndF (t u : TF) : TF := fun ρ => (t ρ).bind fun b => if b = true then u ρ else .ok false
def tOrF (t u : TF) : TF := fun ρ => (t ρ).bind fun b => if b = true then .ok true else u ρ
def tNotF (t : TF) : TF := fun ρ => (t ρ).bind fun b => .ok (!b)

/-- a call of a value: one of the defs of tab -/
def eCallV (tab : List (Str × (List D → R D))) (f : EF) (a : AF) : EF := fun ρ => (f ρ).bind fun d => match d with
  | .fn x => match tab.lookup x with
    | some F => (a ρ).bind F
    | none => .stuck
  | _ => .stuck

/-! ### what is walked -/
def sItems (f : EF) : AF := fun ρ => (f ρ).bind D.items
def upto (lo : Int) : Nat → List D
  | 0 => []
  | n + 1 => .int lo :: upto (lo + 1) n
def rng (i j : Int) : R (List D) :=
  if decide (-(2 ^ 62) ≤ i) && decide (i < 2 ^ 62) && decide (-(2 ^ 62) ≤ j) && decide (j < 2 ^ 62) && decide ((j - i).toNat ≤ lim) then .ok (upto i (j - i).toNat) else .stuck
/-- range(i, j, c), c above 0 -/
def rng3 (i j c : Int) : R (List D) :=
  if decide (-(2 ^ 60) ≤ i) && decide (i < 2 ^ 60) && decide (-(2 ^ 60) ≤ j) && decide (j < 2 ^ 60) && decide (0 < c) && decide (c < 2 ^ 30) && decide ((j - i).toNat ≤ lim) then
    .ok ((List.range ((j - i + c - 1) / c).toNat).map fun k => .int (i + (k : Nat) * c)) else .stuck
/-- range(..) by its arguments -/
def rngA : List D → R (List D)
  | [.int j] => rng 0 j
  | [.int i, .int j] => rng i j
  | [.int i, .int j, .int c] => rng3 i j c
  | _ => .stuck
def sA (F : List D → R (List D)) (a : AF) : AF := fun ρ => (a ρ).bind F

/-! pairs -/
def zipD (as bs : List D) : List D := (as.zip bs).map fun x => .tup [x.1, x.2]
/-- enumerate(..) by its arguments -/
def enumA : List D → R (List D)
  | [.lst ds] => .ok (zipD (upto 0 ds.length) ds)
  | [.tup ds] => .ok (zipD (upto 0 ds.length) ds)
  | _ => .stuck
/-- zip(..): two lists, two tuples -/
def zipA : List D → R (List D)
  | [.lst ds, .lst es] => .ok (zipD ds es)
  | [.tup ds, .tup es] => .ok (zipD ds es)
  | _ => .stuck

/-! ### targets -/
abbrev GF := D → Env → Option Env
def gN (i : Nat) : GF := fun d ρ => some (ρ.set i (some d))
def gT (gs : List D → Env → Option Env) : GF := fun d ρ => match d with
  | .tup xs => gs xs ρ
  | _ => none
def gs0 : List D → Env → Option Env := fun ds ρ => match ds with
  | [] => some ρ
  | _ => none
def gsC (g : GF) (gs : List D → Env → Option Env) : List D → Env → Option Env := fun ds ρ => match ds with
  | d :: r => (g d ρ).bind (gs r)
  | [] => none

/-! ### comprehensions -/
def wipeE (ρ : Env) : List Nat → Env
  | [] => ρ
  | i :: vs => (wipeE ρ vs).set i none
def compL (g : GF) (t : TF) (e : EF) (ρ : Env) : List D → R (List D)
  | [] => .ok []
  | x :: xs => match g x ρ with
    | none => .stuck
    | some ρ1 => match t ρ1 with
      | .ok true => match e ρ1 with
        | .ok y => match compL g t e ρ xs with
          | .ok ys => .ok (y :: ys)
          | _ => .stuck
        | _ => .stuck
      | .ok false => compL g t e ρ xs
      | _ => .stuck
def tYesF : TF := fun _ => .ok true
def eComp (src : AF) (vs : List Nat) (g : GF) (t : TF) (e : EF) : EF := fun ρ => (src ρ).bind fun xs => (compL g t e (wipeE ρ vs) xs).bind fun ys => .ok (.lst ys)

/-- a comprehension over the keys of one's own dict -/
def eCompD (i : Nat) (vs : List Nat) (g : GF) (t : TF) (e : EF) : EF := fun ρ => match ρ[i]? with
  | some (some (.dct ks)) => (compL g t e (wipeE (ρ.set i none) vs) (ks.map .int)).bind fun ys => .ok (.lst ys)
  | _ => .stuck

/-! ### statements -/
abbrev SF := Env → Out
def andThen (o : Out) (k : SF) : Out := match o with
  | .nx ρ => k ρ
  | o => o
def sNx : SF := .nx
def sSeq (s u : SF) : SF := fun ρ => andThen (s ρ) u
def withR {α : Type} (x : R α) (ρ : Env) (k : α → Out) : Out := match x with
  | .ok a => k a
  | .err c => .er c ρ
  | .stuck => .stuck
def sSet (i : Nat) (f : EF) : SF := fun ρ => withR (f ρ) ρ fun d => .nx (ρ.set i (some d))
/-- a list of one's own -/
def sSetO (i : Nat) (f : EF) : SF := fun ρ => withR (f ρ) ρ fun d => match d with
  | .lst xs => .nx (ρ.set i (some (.lst xs)))
  | .dct ks => .nx (ρ.set i (some (.dct ks)))
  | .clk r n a b => .nx (ρ.set i (some (.clk r n a b)))
  | _ => .stuck
def sAsg (g : GF) (f : EF) : SF := fun ρ => withR (f ρ) ρ fun d => match g d ρ with
  | some ρ' => .nx ρ'
  | none => .stuck
/-- a store: of data, or of a list of one's own (b) -/
def sto (b : Bool) (i : Nat) (d : D) (ρ : Env) : Option Env := match b, d with
  | false, d => some (ρ.set i (some d))
  | true, .lst xs => some (ρ.set i (some (.lst xs)))
  | true, .dct ks => some (ρ.set i (some (.dct ks)))
  | true, .clk r n a b => some (ρ.set i (some (.clk r n a b)))
  | true, _ => none
def outO : Option Env → Out
  | some ρ => .nx ρ
  | none => .stuck
/-- a, b = e1, e2 -/
def sPar2 (b : Bool) (i : Nat) (f : EF) (c : Bool) (j : Nat) (g : EF) : SF := fun ρ => withR (f ρ) ρ fun d => withR (g ρ) ρ fun e => outO ((sto b i d ρ).bind (sto c j e))
def sPar3 (b : Bool) (i : Nat) (f : EF) (c : Bool) (j : Nat) (g : EF) (a : Bool) (k : Nat) (h : EF) : SF := fun ρ => withR (f ρ) ρ fun d => withR (g ρ) ρ fun e => withR (h ρ) ρ fun u => outO (((sto b i d ρ).bind (sto c j e)).bind (sto a k u))
def sDrop (f : EF) : SF := fun ρ => withR (f ρ) ρ fun _ => .nx ρ
def sRet (f : EF) : SF := fun ρ => withR (f ρ) ρ fun d => .rt d
def sIf (t : TF) (s u : SF) : SF := fun ρ => withR (t ρ) ρ fun b => if b = true then s ρ else u ρ
def sRaise (c : Str) : SF := fun ρ => .er c ρ
def loopF (g : GF) (body : SF) : List D → Env → Out
  | [], ρ => .nx ρ
  | x :: xs, ρ => match g x ρ with
    | none => .stuck
    | some ρ1 => andThen (body ρ1) (loopF g body xs)
def sFor (src : AF) (g : GF) (body : SF) : SF := fun ρ => withR (src ρ) ρ fun xs => loopF g body xs ρ
def loopW (t : TF) (body : SF) : Nat → Env → Out
  | 0, _ => .stuck
  | n + 1, ρ => withR (t ρ) ρ fun b => if b = true then andThen (body ρ) (loopW t body n) else .nx ρ
/-- more turns than any loop has -/
def fuel : Nat := 1000000
def sWhile (t : TF) (body : SF) : SF := fun ρ => loopW t body fuel ρ
/-- a list of one's own is changed in place -/
def sApp (i : Nat) (f : EF) : SF := fun ρ => match ρ[i]? with
  | some (some (.lst xs)) => withR (f ρ) ρ fun d => if xs.length < lim then .nx (ρ.set i (some (.lst (xs ++ [d])))) else .stuck
  | _ => .stuck
def sExt (i : Nat) (f : EF) : SF := fun ρ => match ρ[i]? with
  | some (some (.lst xs)) => withR (f ρ) ρ fun d => match d with
    | .lst ys => if xs.length + ys.length ≤ lim then .nx (ρ.set i (some (.lst (xs ++ ys)))) else .stuck
    | _ => .stuck
  | _ => .stuck
/-- d[k] = True, d a dict of one's own -/
def sDPut (i : Nat) (g : EF) : SF := fun ρ => match ρ[i]? with
  | some (some (.dct ks)) => withR (g ρ) ρ fun d => match d with
    | .int k => if ks.length < lim then .nx (ρ.set i (some (.dct (D.dput ks k)))) else .stuck
    | _ => .stuck
  | _ => .stuck
/-- x[k] = e -/
def sPut (i : Nat) (f g : EF) : SF := fun ρ => withR (f ρ) ρ fun d => match ρ[i]? with
  | some (some (.lst xs)) => withR (g ρ) ρ fun k => match k with
    | .int j => if 0 ≤ j ∧ j < xs.length then .nx (ρ.set i (some (.lst (xs.set j.toNat d)))) else .stuck
    | _ => .stuck
  | _ => .stuck
/-- isinstance(e, A), e the caught error (of the class c, at address a); tab: which classes are A's -/
def eIsE (i : Nat) (c : Str) (a : Nat) (tab : List (Str × Bool)) : EF := fun ρ => match ρ[i]? with
  | some (some (.exc c' b)) => if b = a ∧ c' = c then (match tab.lookup c with
    | some t => .ok (.bl t)
    | none => .stuck) else .stuck
  | _ => .stuck
/-- try: body / except .. as e: suite; the suite returns; cs: the classes that are caught -/
def sTryAs (i : Nat) (cs : List Str) (s : SF) (h : Str → Nat → SF) : SF := fun ρ => match s ρ with
  | .er c ρ' => if cs.contains c then (match h c 0 (ρ'.set i (some (.exc c 0))) with
    | .rt d => .rt d
    | _ => .stuck) else .stuck
  | o => o
def body (n : Nat) (s : SF) (ds : List D) : R D := match s (ds.map some ++ List.replicate n none) with
  | .rt d => .ok d
  | .nx _ => .ok .non
  | .er c _ => .err c
  | .stuck => .stuck
namespace D
def bZipL : List D → R D
  | [.tup as, .tup bs] => .ok (.lst (zipD as bs))
  | _ => .stuck
def bZipT : List D → R D
  | [.tup as, .tup bs] => .ok (.tup (zipD as bs))
  | _ => .stuck
end D
namespace D
def ltP (a b : Int × List Int) : Bool := if a.1 = b.1 then decide (a.2 < b.2) else decide (a.1 < b.1)
def minP (x : Int × List Int) (xs : List (Int × List Int)) : Int × List Int := xs.foldl (fun a y => if ltP y a then y else a) x
def prI (p : Int × List Int) : D := .tup [.int p.1, tupI p.2]
def prOf : D → Option (Int × List Int)
  | .tup [.int i, .tup xs] => (intsOf xs).map fun l => (i, l)
  | _ => none
def prsOf : List D → Option (List (Int × List Int))
  | [] => some []
  | d :: ds => match prOf d, prsOf ds with
    | some p, some ps => some (p :: ps)
    | _, _ => none
def bMinP : List D → R D
  | [.lst xs] => match prsOf xs with
    | some (p :: ps) => .ok (prI (minP p ps))
    | _ => .stuck
  | _ => .stuck
def ltT : D → D → R D
  | .tup xs, .tup ys => match intsOf xs, intsOf ys with
    | some a, some b => .ok (.bl (decide (a < b)))
    | _, _ => .stuck
  | _, _ => .stuck
end D
def compL2 (g : GF) (src : AF) (vs1 : List Nat) (g1 : GF) (e : EF) (ρ : Env) : List D → R (List D)
  | [] => .ok []
  | x :: xs => match g x ρ with
    | none => .stuck
    | some ρ1 => match src ρ1 with
      | .ok xs1 => match compL g1 tYesF e (wipeE ρ1 vs1) xs1 with
        | .ok ys => match compL2 g src vs1 g1 e ρ xs with
          | .ok zs => .ok (ys ++ zs)
          | _ => .stuck
        | _ => .stuck
      | _ => .stuck
def eComp2 (src : AF) (vs : List Nat) (g : GF) (src1 : AF) (vs1 : List Nat) (g1 : GF) (e : EF) : EF := fun ρ =>
  (src ρ).bind fun xs => (compL2 g src1 vs1 g1 e (wipeE ρ vs) xs).bind fun ys => if ys.length ≤ lim then .ok (.lst ys) else .stuck
end RT

/-! D1: the plain meaning is kept by the machine, over the hand layer. -/
namespace RT
open PySem PySem.Spec PyProof.Rows L2
/-! ### plain values in the abstract heap -/
/-- the pairs of a dict whose values are True -/
def dctKV (ks : List Int) : List (Key × V) := ks.map fun k => (Sum.inl k, V.bl true)
def dttKV (ks : List (List Int)) : List (List Key × V) := ks.map fun k => (k.map Sum.inl, V.bl true)
mutual
def Rep (K : PySem.W.Frag) (mg : Str → Option Value) (F : Hp) : D → V → Prop
  | .non, v => v = .non
  | .bl b, v => v = .bl b
  | .int i, v => v = .int i
  | .str s, v => v = .str s
  | .tup ds, v => ∃ a vs, v = .ref a ∧ F a = some (.tup vs) ∧ RepL K mg F ds vs ∧ ds.length ≤ sizeLine
  | .lst ds, v => ∃ a vs, v = .ref a ∧ F a = some (.lst vs) ∧ RepL K mg F ds vs ∧ ds.length ≤ sizeLine
  | .exc _ a, v => v = .ref a
  | .fn f, v => ∃ a, v = .ref a ∧ mg f = some (.ref a)
  | .scr ns, v => ∃ a, v = .ref a ∧ SqL K F a (ns.map V.int) ∧ ns.length ≤ sizeLine
  | .dct ks, v => ∃ a, v = .ref a ∧ F a = some (.dK (dctKV ks))
  | .dtt ks, v => ∃ a, v = .ref a ∧ F a = some (.dT (dttKV ks))
  | .clk _ _ _ _, v => ∃ a, v = .ref a
def RepL (K : PySem.W.Frag) (mg : Str → Option Value) (F : Hp) : List D → List V → Prop
  | [], vs => vs = []
  | d :: ds, vs => ∃ v vs', vs = v :: vs' ∧ Rep K mg F d v ∧ RepL K mg F ds vs'
end
theorem Same.seqT {K : PySem.W.Frag} {H H' : Hp} {a : Addr} {xs : List V} (e : Same H H') (h : SqT K H a xs) : SqT K H' a xs := by
  rcases h with (h | ⟨o, h⟩) | h
  · exact .inl (.inl (e _ _ h))
  · exact .inl (.inr ⟨o, e _ _ h⟩)
  · exact .inr h
section
variable {K : PySem.W.Frag} {mg : Str → Option Value}
mutual
theorem Rep.mono {F F' : Hp} (e : Same F F') : ∀ (d : D) (v : V), Rep K mg F d v → Rep K mg F' d v
  | .non, _, h => by simpa [Rep] using h
  | .bl _, _, h => by simpa [Rep] using h
  | .int _, _, h => by simpa [Rep] using h
  | .str _, _, h => by simpa [Rep] using h
  | .tup ds, v, h => by
    simp only [Rep] at h ⊢
    obtain ⟨a, vs, e1, e2, e3, e4⟩ := h
    exact ⟨a, vs, e1, e _ _ e2, RepL.mono e ds vs e3, e4⟩
  | .lst ds, v, h => by
    simp only [Rep] at h ⊢
    obtain ⟨a, vs, e1, e2, e3, e4⟩ := h
    exact ⟨a, vs, e1, e _ _ e2, RepL.mono e ds vs e3, e4⟩
  | .exc _ _, _, h => by simpa [Rep] using h
  | .fn _, _, h => by simpa [Rep] using h
  | .scr ns, _, h => by
    simp only [Rep] at h ⊢
    obtain ⟨a, e1, e2, e3⟩ := h
    exact ⟨a, e1, Same.seq e e2, e3⟩
  | .dct _, _, h => by
    simp only [Rep] at h ⊢
    obtain ⟨a, e1, e2⟩ := h
    exact ⟨a, e1, e _ _ e2⟩
  | .dtt _, _, h => by
    simp only [Rep] at h ⊢
    obtain ⟨a, e1, e2⟩ := h
    exact ⟨a, e1, e _ _ e2⟩
  | .clk _ _ _ _, _, h => by simpa [Rep] using h
theorem RepL.mono {F F' : Hp} (e : Same F F') : ∀ (ds : List D) (vs : List V), RepL K mg F ds vs → RepL K mg F' ds vs
  | [], _, h => by simpa [RepL] using h
  | d :: ds, vs, h => by
    simp only [RepL] at h ⊢
    obtain ⟨v, vs', e1, e2, e3⟩ := h
    exact ⟨v, vs', e1, Rep.mono e d v e2, RepL.mono e ds vs' e3⟩
end
theorem RepL.len {F : Hp} : ∀ {ds : List D} {vs : List V}, RepL K mg F ds vs → vs.length = ds.length
  | [], _, h => by simp only [RepL] at h; subst h; rfl
  | d :: ds, vs, h => by
    simp only [RepL] at h
    obtain ⟨v, vs', rfl, _, h⟩ := h
    simp [RepL.len h]
theorem RepL.get {F : Hp} : ∀ {ds : List D} {vs : List V} {i : Nat} {d : D}, RepL K mg F ds vs → ds[i]? = some d → ∃ v, vs[i]? = some v ∧ Rep K mg F d v
  | [], _, _, _, _, e => by simp at e
  | d :: ds, vs, 0, d', h, e => by
    simp only [RepL] at h
    obtain ⟨v, vs', rfl, h1, h⟩ := h
    simp at e; subst e
    exact ⟨v, rfl, h1⟩
  | d :: ds, vs, i + 1, d', h, e => by
    simp only [RepL] at h
    obtain ⟨v, vs', rfl, h1, h⟩ := h
    exact RepL.get (i := i) h (by simpa using e)
theorem RepL.get' {F : Hp} : ∀ {ds : List D} {vs : List V} {i : Nat} {v : V}, RepL K mg F ds vs → vs[i]? = some v → ∃ d, ds[i]? = some d ∧ Rep K mg F d v
  | [], _, _, _, h, e => by simp only [RepL] at h; subst h; simp at e
  | d :: ds, vs, 0, v', h, e => by
    simp only [RepL] at h
    obtain ⟨v, vs', rfl, h1, h⟩ := h
    simp at e; subst e
    exact ⟨d, rfl, h1⟩
  | d :: ds, vs, i + 1, v', h, e => by
    simp only [RepL] at h
    obtain ⟨v, vs', rfl, h1, h⟩ := h
    exact RepL.get' (i := i) h (by simpa using e)
theorem RepL.append {F : Hp} : ∀ {ds es : List D} {vs ws : List V}, RepL K mg F ds vs → RepL K mg F es ws → RepL K mg F (ds ++ es) (vs ++ ws)
  | [], _, _, _, h, g => by simp only [RepL] at h; subst h; simpa using g
  | d :: ds, es, vs, ws, h, g => by
    simp only [RepL] at h
    obtain ⟨v, vs', rfl, h1, h⟩ := h
    simp only [List.cons_append, RepL]
    exact ⟨v, vs' ++ ws, rfl, h1, RepL.append h g⟩
theorem RepL.take {F : Hp} : ∀ {ds : List D} {vs : List V} (n : Nat), RepL K mg F ds vs → RepL K mg F (ds.take n) (vs.take n)
  | ds, vs, 0, _ => by simp [RepL]
  | [], _, n + 1, h => by simp only [RepL] at h; subst h; simp [RepL]
  | d :: ds, vs, n + 1, h => by
    simp only [RepL] at h
    obtain ⟨v, vs', rfl, h1, h⟩ := h
    simp only [List.take_succ_cons, RepL]
    exact ⟨v, _, rfl, h1, RepL.take n h⟩
theorem RepL.drop {F : Hp} : ∀ {ds : List D} {vs : List V} (n : Nat), RepL K mg F ds vs → RepL K mg F (ds.drop n) (vs.drop n)
  | ds, vs, 0, h => by simpa using h
  | [], _, n + 1, h => by simp only [RepL] at h; subst h; simp [RepL]
  | d :: ds, vs, n + 1, h => by
    simp only [RepL] at h
    obtain ⟨v, vs', rfl, h1, h⟩ := h
    simpa using RepL.drop n h
theorem RepL.set {F : Hp} : ∀ {ds : List D} {vs : List V} {d : D} {v : V} (i : Nat), RepL K mg F ds vs → Rep K mg F d v → RepL K mg F (ds.set i d) (vs.set i v)
  | [], _, _, _, _, h, _ => by simp only [RepL] at h; subst h; simp [RepL]
  | d :: ds, vs, _, _, 0, h, r => by
    simp only [RepL] at h
    obtain ⟨v, vs', rfl, h1, h⟩ := h
    simp only [List.set_cons_zero, RepL]
    exact ⟨_, _, rfl, r, h⟩
  | d :: ds, vs, _, _, i + 1, h, r => by
    simp only [RepL] at h
    obtain ⟨v, vs', rfl, h1, h⟩ := h
    simp only [List.set_cons_succ, RepL]
    exact ⟨_, _, rfl, h1, RepL.set i h r⟩
theorem RepL.rev {F : Hp} : ∀ {ds : List D} {vs : List V}, RepL K mg F ds vs → RepL K mg F ds.reverse vs.reverse
  | [], _, h => by simp only [RepL] at h; subst h; simp [RepL]
  | d :: ds, vs, h => by
    simp only [RepL] at h
    obtain ⟨v, vs', rfl, h1, h⟩ := h
    simp only [List.reverse_cons]
    exact RepL.append (RepL.rev h) (by simp only [RepL]; exact ⟨v, [], rfl, h1, rfl⟩)
theorem RepL.one {F : Hp} {d : D} {v : V} (h : Rep K mg F d v) : RepL K mg F [d] [v] := by
  simp only [RepL]; exact ⟨v, [], rfl, h, rfl⟩
theorem RepL.rep {F : Hp} {ds : List D} {vs : List V} (h : RepL K mg F ds vs) : ∀ n, RepL K mg F (List.replicate n ds).flatten (List.replicate n vs).flatten
  | 0 => by simp [RepL]
  | n + 1 => by
    simp only [List.replicate_succ, List.flatten_cons]
    exact RepL.append h (RepL.rep h n)
theorem RepL.ints {F : Hp} : ∀ {ns : List Int} {vs : List V}, RepL K mg F (ns.map D.int) vs → vs = ns.map V.int
  | [], _, h => by simpa [RepL] using h
  | n :: ns, vs, h => by
    simp only [List.map_cons, RepL, Rep] at h
    obtain ⟨v, vs', rfl, rfl, h⟩ := h
    rw [RepL.ints h]; rfl
theorem RepL.ofInts {F : Hp} : ∀ {ns : List Int}, RepL K mg F (ns.map D.int) (ns.map V.int)
  | [] => by simp [RepL]
  | n :: ns => by
    simp only [List.map_cons, RepL, Rep]
    exact ⟨_, _, rfl, rfl, RepL.ofInts⟩
end

/-! ### frozen part and heap, behind a step -/
structure Ext (F H F' H' : Hp) : Prop where
  ff : Same F F'
  hh : Same H H'
  fh : Same F' H'
  nw : ∀ b, H b ≠ none → F' b = F b
theorem Ext.refl {F H : Hp} (s : Same F H) : Ext F H F H := ⟨.refl _, .refl _, s, fun _ _ => rfl⟩
theorem Ext.trans {F H F1 H1 F2 H2 : Hp} (a : Ext F H F1 H1) (b : Ext F1 H1 F2 H2) : Ext F H F2 H2 :=
  ⟨a.ff.trans b.ff, a.hh.trans b.hh, b.fh, fun c h => by
    have h1 : H1 c ≠ none := by
      cases q : H c with
      | none => exact absurd q h
      | some o => rw [a.hh c o q]; simp
    rw [b.nw c h1, a.nw c h]⟩
theorem same_upd {H : Hp} {p : Addr} {o : HO} (h : H p = none) : Same H (upd H p o) := fun b x e => by
  rw [upd_ne (ne_of_none e h)]
  exact e
/-- a new object of the frozen part -/
theorem Ext.new {F H : Hp} {p : Addr} {o : HO} (s : Same F H) (h : H p = none) : Ext F H (upd F p o) (upd H p o) := by
  have hf : F p = none := s.free h
  refine ⟨same_upd hf, same_upd h, fun b x e => ?_, fun b hb => ?_⟩
  · by_cases q : b = p
    · subst q; rw [upd_same] at e ⊢; exact e
    · rw [upd_ne q] at e ⊢; exact s _ _ e
  · have q : b ≠ p := fun z => by subst z; exact hb h
    rw [upd_ne q]
/-- a new object that may change still -/
theorem Ext.newH {F H : Hp} {p : Addr} {o : HO} (s : Same F H) (h : H p = none) : Ext F H F (upd H p o) :=
  ⟨.refl _, same_upd h, s.trans (same_upd h), fun _ _ => rfl⟩
theorem Same.none {F H : Hp} {p : Addr} (s : Same F H) (h : H p = Option.none) : F p = Option.none := s.free h

/-! ### what may change: lists, dicts, clocks of one's own -/
/-- the addresses that go with the object at a -/
def foot (H : Hp) (a : Addr) : List Addr := match H a with
  | some (.ins _ dx fs) => a :: dx :: ((match fs.lookup ("done" : Str) with
    | some (.ref b) => [b]
    | _ => []) ++ (match fs.lookup ("undone" : Str) with
    | some (.ref b) => [b]
    | _ => []))
  | _ => [a]
def Body (K : PySem.W.Frag) (mg : Str → Option Value) (F H : Hp) : D → Addr → Prop
  | .lst ds, a => ∃ vs, H a = some (.lst vs) ∧ RepL K mg F ds vs ∧ ds.length ≤ sizeLine
  | .dct ks, a => H a = some (.dK (dctKV ks)) ∧ ks.length ≤ sizeLine
  | .clk row now dn un, a => ∃ C dx fs vr b c vs ws, H a = some (.ins C dx fs) ∧ mg "RingClock" = some (.ref C) ∧ H dx = some (.own a) ∧ fs.lookup ("alarms" : Str) = some vr ∧ Rep K mg F row vr ∧ fs.lookup ("now" : Str) = some (.int now) ∧
      fs.lookup ("done" : Str) = some (.ref b) ∧ H b = some (.lst vs) ∧ RepL K mg F dn vs ∧ dn.length ≤ sizeLine ∧ fs.lookup ("undone" : Str) = some (.ref c) ∧ H c = some (.lst ws) ∧ RepL K mg F un ws ∧ un.length ≤ sizeLine ∧ b ≠ c ∧
      (∀ f : Str, f ≠ "alarms" → f ≠ "now" → f ≠ "done" → f ≠ "undone" → fs.lookup f = none) ∧ fs.length ≤ 8
  | _, _ => False
section
variable {K : PySem.W.Frag} {mg : Str → Option Value} {F H F' H' : Hp} {a : Addr} {d : D}
theorem self_foot : a ∈ foot H a := by
  unfold foot
  split <;> simp
theorem foot_keep {o : HO} (h : H a = some o) (h' : H' a = some o) : foot H' a = foot H a := by unfold foot; rw [h, h']
theorem foot_lst {vs : List V} (h : H a = some (.lst vs)) : foot H a = [a] := by unfold foot; rw [h]
theorem foot_dct {vs : List (Key × V)} (h : H a = some (.dK vs)) : foot H a = [a] := by unfold foot; rw [h]
theorem foot_clk {C dx b c : Addr} {fs : List (Str × V)} (h : H a = some (.ins C dx fs)) (hb : fs.lookup ("done" : Str) = some (.ref b)) (hc : fs.lookup ("undone" : Str) = some (.ref c)) : foot H a = [a, dx, b, c] := by unfold foot; rw [h]; simp only [hb, hc]; rfl
theorem Body.at (h : Body K mg F H d a) : ∃ o, H a = some o := by
  cases d with
  | lst ds => obtain ⟨vs, e, _⟩ := h; exact ⟨_, e⟩
  | dct ks => exact ⟨_, h.1⟩
  | clk row now dn un => obtain ⟨C, dx, fs, vr, b, c, vs, ws, e, _⟩ := h; exact ⟨_, e⟩
  | _ => exact h.elim
theorem Body.there (h : Body K mg F H d a) : ∀ x ∈ foot H a, ∃ o, H x = some o := by
  cases d with
  | lst ds =>
    obtain ⟨vs, e, _⟩ := h
    rw [foot_lst e]
    intro x hx
    rw [List.mem_singleton.mp hx]; exact ⟨_, e⟩
  | dct ks =>
    rw [foot_dct h.1]
    intro x hx
    rw [List.mem_singleton.mp hx]; exact ⟨_, h.1⟩
  | clk row now dn un =>
    obtain ⟨C, dx, fs, vr, b, c, vs, ws, e1, e2, e3, e4, e5, e6, e7, e8, e9, e10, e11, e12, _⟩ := h
    rw [foot_clk e1 e7 e11]
    intro x hx
    simp only [List.mem_cons, List.not_mem_nil, or_false] at hx
    rcases hx with rfl | rfl | rfl | rfl
    · exact ⟨_, e1⟩
    · exact ⟨_, e3⟩
    · exact ⟨_, e8⟩
    · exact ⟨_, e12⟩
  | _ => exact h.elim
/-- what goes with it stays -/
theorem Body.keep (h : Body K mg F H d a) (s : Same F F') (k : ∀ x ∈ foot H a, ∀ o, H x = some o → H' x = some o) : Body K mg F' H' d a ∧ foot H' a = foot H a := by
  obtain ⟨o, ho⟩ := h.at
  have ho' := k a self_foot o ho
  refine ⟨?_, foot_keep ho ho'⟩
  cases d with
  | lst ds =>
    obtain ⟨vs, e, r, z⟩ := h
    rw [ho] at e
    cases e
    exact ⟨vs, ho', RepL.mono s _ _ r, z⟩
  | dct ks =>
    have e := h.1
    rw [ho] at e
    cases e
    exact ⟨ho', h.2⟩
  | clk row now dn un =>
    obtain ⟨C, dx, fs, vr, b, c, vs, ws, e1, e2, e3, e4, e5, e6, e7, e8, e9, e10, e11, e12, e13, e14, e15, e16⟩ := h
    have ft := foot_clk e1 e7 e11
    rw [ft] at k
    exact ⟨C, dx, fs, vr, b, c, vs, ws, k a (by simp) _ e1, e2, k dx (by simp) _ e3, e4, Rep.mono s _ _ e5, e6, e7, k b (by simp) _ e8, RepL.mono s _ _ e9, e10, e11, k c (by simp) _ e12, RepL.mono s _ _ e13, e14, e15, e16⟩
  | _ => exact h.elim
theorem Body.ext (h : Body K mg F H d a) (e : Ext F H F' H') : Body K mg F' H' d a ∧ foot H' a = foot H a := h.keep e.ff fun x _ o q => e.hh x o q
/-- nothing else holds it -/
def Own (K : PySem.W.Frag) (mg : Str → Option Value) (F H : Hp) (d : D) (v : V) : Prop := ∃ a, v = .ref a ∧ Body K mg F H d a ∧ ∀ x ∈ foot H a, F x = none
theorem Own.ext {v : V} (h : Own K mg F H d v) (e : Ext F H F' H') : Own K mg F' H' d v := by
  obtain ⟨a, h1, h2, h3⟩ := h
  obtain ⟨b1, b2⟩ := h2.ext e
  refine ⟨a, h1, b1, fun x hx => ?_⟩
  rw [b2] at hx
  obtain ⟨o, ho⟩ := h2.there x hx
  rw [e.nw x (by rw [ho]; simp)]
  exact h3 x hx
theorem own_lst {ds : List D} {vs : List V} (h : H a = some (.lst vs)) (hf : F a = none) (r : RepL K mg F ds vs) (z : ds.length ≤ sizeLine) : Own K mg F H (.lst ds) (.ref a) :=
  ⟨a, rfl, ⟨vs, h, r, z⟩, fun x hx => by rw [foot_lst h] at hx; rw [List.mem_singleton.mp hx]; exact hf⟩
theorem Own.lst {ds : List D} {v : V} (h : Own K mg F H (.lst ds) v) : ∃ a vs, v = .ref a ∧ H a = some (.lst vs) ∧ F a = none ∧ RepL K mg F ds vs ∧ ds.length ≤ sizeLine := by
  obtain ⟨a, rfl, ⟨vs, e, r, z⟩, h3⟩ := h
  exact ⟨a, vs, rfl, e, h3 a self_foot, r, z⟩
theorem own_dct {ks : List Int} (h : H a = some (.dK (dctKV ks))) (hf : F a = none) (z : ks.length ≤ sizeLine) : Own K mg F H (.dct ks) (.ref a) :=
  ⟨a, rfl, ⟨h, z⟩, fun x hx => by rw [foot_dct h] at hx; rw [List.mem_singleton.mp hx]; exact hf⟩
theorem Own.dct {ks : List Int} {v : V} (h : Own K mg F H (.dct ks) v) : ∃ a, v = .ref a ∧ H a = some (.dK (dctKV ks)) ∧ F a = none ∧ ks.length ≤ sizeLine := by
  obtain ⟨a, rfl, ⟨e, z⟩, h3⟩ := h
  exact ⟨a, rfl, e, h3 a self_foot, z⟩
end
/-! ### slots -/
/-- the owned slots: O; all else is plain data of the frozen part -/
structure SR (K : PySem.W.Frag) (mg : Str → Option Value) (O : List Nat) (ρ : Env) (F : Hp) (σ : L2.St) (H : Hp) : Prop where
  sub : Same F H
  dat : ∀ i d, ρ[i]? = some (some d) → i ∉ O → ∃ v, σ[i]? = some (some v) ∧ Rep K mg F d v
  own : ∀ i d, ρ[i]? = some (some d) → i ∈ O → ∃ a, σ[i]? = some (some (.ref a)) ∧ Body K mg F H d a ∧ ∀ x ∈ foot H a, F x = none
  inj : ∀ i j d e a b x, i ∈ O → j ∈ O → ρ[i]? = some (some d) → ρ[j]? = some (some e) → σ[i]? = some (some (.ref a)) → σ[j]? = some (some (.ref b)) → x ∈ foot H a → x ∈ foot H b → i = j
  len : σ.length = ρ.length
section
variable {K : PySem.W.Frag} {mg : Str → Option Value} {O O' : List Nat} {ρ : Env} {F H F' H' : Hp} {σ : L2.St}
theorem SR.body (s : SR K mg O ρ F σ H) {i : Nat} {d : D} {a : Addr} (hi : i ∈ O) (hd : ρ[i]? = some (some d)) (ha : σ[i]? = some (some (.ref a))) : Body K mg F H d a ∧ ∀ x ∈ foot H a, F x = none := by
  obtain ⟨b, h1, h2, h3⟩ := s.own i d hd hi
  rw [ha] at h1
  cases h1
  exact ⟨h2, h3⟩
/-- a list of one's own -/
theorem SR.ownL (s : SR K mg O ρ F σ H) {i : Nat} {ds : List D} (hd : ρ[i]? = some (some (.lst ds))) (hi : i ∈ O) : ∃ o vs, σ[i]? = some (some (.ref o)) ∧ H o = some (.lst vs) ∧ F o = none ∧ RepL K mg F ds vs ∧ ds.length ≤ sizeLine := by
  obtain ⟨a, h1, ⟨vs, h2, h3, h4⟩, h5⟩ := s.own i _ hd hi
  exact ⟨a, vs, h1, h2, h5 a self_foot, h3, h4⟩
theorem SR.ext (s : SR K mg O ρ F σ H) (e : Ext F H F' H') : SR K mg O ρ F' σ H' where
  sub := e.fh
  dat := fun i d h n => by
    obtain ⟨v, h1, h2⟩ := s.dat i d h n
    exact ⟨v, h1, Rep.mono e.ff _ _ h2⟩
  own := fun i d h n => by
    obtain ⟨a, h1, h2, h3⟩ := s.own i d h n
    obtain ⟨b1, b2⟩ := h2.ext e
    refine ⟨a, h1, b1, fun x hx => ?_⟩
    rw [b2] at hx
    obtain ⟨o, ho⟩ := h2.there x hx
    rw [e.nw x (by rw [ho]; simp)]
    exact h3 x hx
  inj := fun i j d1 d2 a b x h1 h2 h3 h4 h5 h6 h7 h8 => by
    rw [((s.body h1 h3 h5).1.ext e).2] at h7
    rw [((s.body h2 h4 h6).1.ext e).2] at h8
    exact s.inj i j d1 d2 a b x h1 h2 h3 h4 h5 h6 h7 h8
  len := s.len
/-- what is read: data, or an owned list, an owned dict -/
def Look (K : PySem.W.Frag) (mg : Str → Option Value) (F H : Hp) : D → V → Prop
  | .lst ds, v => ∃ a vs, v = .ref a ∧ H a = some (.lst vs) ∧ RepL K mg F ds vs ∧ ds.length ≤ sizeLine
  | .dct ks, v => ∃ a, v = .ref a ∧ H a = some (.dK (dctKV ks))
  | d, v => Rep K mg F d v
theorem Rep.look {d : D} {v : V} (s : Same F H) (h : Rep K mg F d v) : Look K mg F H d v := by
  cases d with
  | lst ds =>
    simp only [Rep] at h
    obtain ⟨a, vs, h1, h2, h3, h4⟩ := h
    exact ⟨a, vs, h1, s _ _ h2, h3, h4⟩
  | dct ks =>
    simp only [Rep] at h
    obtain ⟨a, h1, h2⟩ := h
    exact ⟨a, h1, s _ _ h2⟩
  | _ => exact h
theorem Look.ext {d : D} {v : V} (h : Look K mg F H d v) (e : Ext F H F' H') : Look K mg F' H' d v := by
  cases d with
  | lst ds =>
    obtain ⟨a, vs, h1, h2, h3, h4⟩ := h
    exact ⟨a, vs, h1, e.hh _ _ h2, RepL.mono e.ff _ _ h3, h4⟩
  | dct ks =>
    obtain ⟨a, h1, h2⟩ := h
    exact ⟨a, h1, e.hh _ _ h2⟩
  | _ => exact Rep.mono e.ff _ _ h
theorem Body.look {d : D} {a : Addr} (h : Body K mg F H d a) : Look K mg F H d (.ref a) := by
  cases d with
  | lst ds => obtain ⟨vs, h1, h2, h3⟩ := h; exact ⟨a, vs, rfl, h1, h2, h3⟩
  | dct ks => exact ⟨a, rfl, h.1⟩
  | clk _ _ _ _ => simp only [Look, Rep]; exact ⟨a, rfl⟩
  | _ => exact h.elim
theorem Own.look {d : D} {v : V} (h : Own K mg F H d v) : Look K mg F H d v := by
  obtain ⟨a, rfl, h, _⟩ := h
  exact h.look
theorem same_one {o : Addr} {u : HO} (s : Same F H) (h : H o = some u) : Same (upd F o u) H := fun b x e => by
  by_cases q : b = o
  · subst q; rw [upd_same] at e; rw [h]; exact e
  · rw [upd_ne q] at e; exact s _ _ e
/-- it is frozen -/
theorem Own.rep {d : D} {v : V} (s : Same F H) (h : Own K mg F H d v) : ∃ F', Same F F' ∧ Same F' H ∧ Rep K mg F' d v ∧ ∀ b, F' b ≠ F b → v = .ref b := by
  have one : ∀ {o : Addr} {u : HO}, F o = none → H o = some u → v = .ref o → Same F (upd F o u) ∧ Same (upd F o u) H ∧ ∀ b, (upd F o u) b ≠ F b → v = .ref b := fun {o u} hf hH e =>
    ⟨same_upd hf, same_one s hH, fun b hb => by
      by_cases q : b = o
      · rw [q]; exact e
      · rw [upd_ne q] at hb; exact absurd rfl hb⟩
  cases d with
  | lst ds =>
    obtain ⟨o, vs, rfl, h3, h4, h5, h6⟩ := h.lst
    obtain ⟨g1, g2, g3⟩ := one h4 h3 rfl
    refine ⟨_, g1, g2, ?_, g3⟩
    simp only [Rep]
    exact ⟨o, vs, rfl, upd_same, RepL.mono g1 _ _ h5, h6⟩
  | dct ks =>
    obtain ⟨o, rfl, h3, h4, h6⟩ := h.dct
    obtain ⟨g1, g2, g3⟩ := one h4 h3 rfl
    refine ⟨_, g1, g2, ?_, g3⟩
    simp only [Rep]
    exact ⟨o, rfl, upd_same⟩
  | clk row now dn un =>
    obtain ⟨o, rfl, _⟩ := h
    exact ⟨F, .refl F, s, by simp only [Rep]; exact ⟨o, rfl⟩, fun b hb => absurd rfl hb⟩
  | _ => obtain ⟨_, _, h, _⟩ := h; exact h.elim
end
theorem lim_eq : lim = sizeLine := by rw [sizeLine_eq]; rfl
end RT

namespace RT
open PySem PySem.Spec PyProof.Rows L2
/-! ### what is wanted of a value -/
inductive Md where
  | rep | look | fresh
/-- one's own, and new since H -/
def FreshV (K : PySem.W.Frag) (mg : Str → Option Value) (H F' H' : Hp) (d : D) (v : V) : Prop := Own K mg F' H' d v ∧ ∀ o, v = .ref o → ∀ x ∈ foot H' o, H x = none
theorem FreshV.ext {K : PySem.W.Frag} {mg : Str → Option Value} {H0 F H F' H' : Hp} {d : D} {v : V} (h : FreshV K mg H0 F H d v) (e : Ext F H F' H') : FreshV K mg H0 F' H' d v := by
  refine ⟨h.1.ext e, fun o ho x hx => ?_⟩
  obtain ⟨⟨a, h1, h2, h3⟩, h4⟩ := h
  subst ho
  cases h1
  rw [(h2.ext e).2] at hx
  exact h4 _ rfl x hx
theorem freshLst {K : PySem.W.Frag} {mg : Str → Option Value} {H0 F H : Hp} {ds : List D} {vs : List V} {a : Addr} (h : H a = some (.lst vs)) (hf : F a = none) (r : RepL K mg F ds vs) (z : ds.length ≤ sizeLine) (hn : H0 a = none) : FreshV K mg H0 F H (.lst ds) (.ref a) :=
  ⟨own_lst h hf r z, fun o e x hx => by cases e; rw [foot_lst h] at hx; rw [List.mem_singleton.mp hx]; exact hn⟩
theorem FreshV.lst {K : PySem.W.Frag} {mg : Str → Option Value} {H0 F H : Hp} {ds : List D} {v : V} (h : FreshV K mg H0 F H (.lst ds) v) : ∃ o vs, v = .ref o ∧ H o = some (.lst vs) ∧ F o = none ∧ RepL K mg F ds vs ∧ ds.length ≤ sizeLine ∧ H0 o = none := by
  obtain ⟨o, vs, e, h1, h2, h3, h4⟩ := h.1.lst
  exact ⟨o, vs, e, h1, h2, h3, h4, h.2 o e o self_foot⟩
def Val (K : PySem.W.Frag) (mg : Str → Option Value) (m : Md) (H F' H' : Hp) (d : D) (v : V) : Prop :=
  match m with
  | .rep => Rep K mg F' d v
  | .look => Look K mg F' H' d v
  | .fresh => match d with
    | .lst ds => FreshV K mg H F' H' (.lst ds) v
    | .dct ks => FreshV K mg H F' H' (.dct ks) v
    | .clk a b c e => FreshV K mg H F' H' (.clk a b c e) v
    | d => Rep K mg F' d v
/-- the wish of a value -/
def Goal (K : PySem.W.Frag) (mg : Str → Option Value) (m : Md) (W : WX) (σ : L2.St) (F H : Hp) (r : R D) (Q : VK) : Prop :=
  match r with
  | .ok d => ∀ v F' H', Ext F H F' H' → Val K mg m H F' H' d v → Q v H'
  | .err c => ∀ F' H', Ext F H F' H' → ∀ C, mg c = some (.ref C) → W (.ref C) none σ H'
  | .stuck => False
def GoalT (mg : Str → Option Value) (W : WX) (σ : L2.St) (F H : Hp) (r : R Bool) (Q : Bool → Hp → Prop) : Prop :=
  match r with
  | .ok b => ∀ F' H', Ext F H F' H' → Q b H'
  | .err c => ∀ F' H', Ext F H F' H' → ∀ C, mg c = some (.ref C) → W (.ref C) none σ H'
  | .stuck => False
def LookL (K : PySem.W.Frag) (mg : Str → Option Value) (F H : Hp) : List D → List V → Prop
  | [], vs => vs = []
  | d :: ds, vs => ∃ v vs', vs = v :: vs' ∧ Look K mg F H d v ∧ LookL K mg F H ds vs'
def ValL (K : PySem.W.Frag) (mg : Str → Option Value) (m : Md) (F H : Hp) (ds : List D) (vs : List V) : Prop :=
  match m with
  | .look => LookL K mg F H ds vs
  | _ => RepL K mg F ds vs
def GoalA (K : PySem.W.Frag) (mg : Str → Option Value) (m : Md) (W : WX) (σ : L2.St) (F H : Hp) (r : R (List D)) (Q : List V → Hp → Prop) : Prop :=
  match r with
  | .ok ds => ∀ vs F' H', Ext F H F' H' → ValL K mg m F' H' ds vs → Q vs H'
  | .err c => ∀ F' H', Ext F H F' H' → ∀ C, mg c = some (.ref C) → W (.ref C) none σ H'
  | .stuck => False
def tD (K : PySem.W.Frag) (mg : Str → Option Value) (m : Md) (O : List Nat) (W : WX) (f : EF) : TE := fun σ H Q => ∃ ρ F, SR K mg O ρ F σ H ∧ Goal K mg m W σ F H (f ρ) Q
def tT (K : PySem.W.Frag) (mg : Str → Option Value) (O : List Nat) (W : WX) (f : TF) : TT := fun σ H Q => ∃ ρ F, SR K mg O ρ F σ H ∧ GoalT mg W σ F H (f ρ) Q
def tA (K : PySem.W.Frag) (mg : Str → Option Value) (m : Md) (O : List Nat) (W : WX) (f : AF) : TA := fun σ H Q => ∃ ρ F, SR K mg O ρ F σ H ∧ GoalA K mg m W σ F H (f ρ) Q
abbrev PD (X : Cx) (m : Md) (O : List Nat) (W : WX) (f : EF) (e : Expr) : Prop := PE X e (tD X.K X.mg m O W f)
abbrev PTD (X : Cx) (O : List Nat) (W : WX) (f : TF) (e : Expr) : Prop := PT X e (tT X.K X.mg O W f)
abbrev PWD (X : Cx) (O : List Nat) (W : WX) (f : TF) (e : Expr) : Prop := PW X e (tT X.K X.mg O W f)
abbrev PAD (X : Cx) (m : Md) (O : List Nat) (W : WX) (f : AF) (es : List Expr) : Prop := PA X es (tA X.K X.mg m O W f)

theorem PE.imp {X : Cx} {e : Expr} {t t' : TE} (h : PE X e t) (i : ∀ σ H Q, t' σ H Q → t σ H Q) : PE X e t' := ⟨fun pins s σ H Q I q => h.run pins s σ H Q I (i σ H Q q)⟩
theorem PT.imp {X : Cx} {e : Expr} {t t' : TT} (h : PT X e t) (i : ∀ σ H Q, t' σ H Q → t σ H Q) : PT X e t' := ⟨fun pins s σ H Q I q => h.run pins s σ H Q I (i σ H Q q)⟩
theorem PW.imp {X : Cx} {e : Expr} {t t' : TT} (h : PW X e t) (i : ∀ σ H Q, t' σ H Q → t σ H Q) : PW X e t' := ⟨fun wh pins s σ H Q I q => h.run wh pins s σ H Q I (i σ H Q q)⟩
theorem PA.imp {X : Cx} {es : List Expr} {t t' : TA} (h : PA X es t) (i : ∀ σ H Q, t' σ H Q → t σ H Q) : PA X es t' := ⟨fun pos pins s σ H Q I q => h.run pos pins s σ H Q I (i σ H Q q)⟩
theorem PS.imp {X : Cx} {st : Stmt} {t t' : TS} (h : PS X st t) (i : ∀ D σ H, t' D σ H → t D σ H) : PS X st t' := ⟨fun pins s σ H D I q => h.run pins s σ H D I (i D σ H q)⟩
theorem PSs.imp {X : Cx} {st : List Stmt} {t t' : TS} (h : PSs X st t) (i : ∀ D σ H, t' D σ H → t D σ H) : PSs X st t' := ⟨fun pins s σ H D I q => h.run pins s σ H D I (i D σ H q)⟩

section
variable {K : PySem.W.Frag} {mg : Str → Option Value} {m m1 m2 : Md} {O : List Nat} {W : WX} {σ : L2.St} {F H F1 H1 : Hp} {ρ : Env}
theorem Val.ext {H0 : Hp} {d : D} {v : V} (h : Val K mg m H0 F H d v) (e : Ext F H F1 H1) : Val K mg m H0 F1 H1 d v := by
  cases m with
  | rep => exact Rep.mono e.ff _ _ h
  | look => exact Look.ext h e
  | fresh =>
    cases d with
    | lst ds => exact FreshV.ext h e
    | dct ks => exact FreshV.ext h e
    | clk _ _ _ _ => exact FreshV.ext h e
    | _ => exact Rep.mono e.ff _ _ h
theorem Val.later {H0 : Hp} {d : D} {v : V} (h : Val K mg m H0 F H d v) (e : Same H1 H0) : Val K mg m H1 F H d v := by
  cases m with
  | rep => exact h
  | look => exact h
  | fresh =>
    cases d with
    | lst ds => exact ⟨h.1, fun o q x hx => e.free (h.2 o q x hx)⟩
    | dct ks => exact ⟨h.1, fun o q x hx => e.free (h.2 o q x hx)⟩
    | clk _ _ _ _ => exact ⟨h.1, fun o q x hx => e.free (h.2 o q x hx)⟩
    | _ => exact h
theorem Val.look {H0 : Hp} {d : D} {v : V} (s : Same F H) (h : Val K mg m H0 F H d v) : Look K mg F H d v := by
  cases m with
  | rep => exact Rep.look s h
  | look => exact h
  | fresh =>
    cases d with
    | lst ds => exact h.1.look
    | dct ks => exact h.1.look
    | clk _ _ _ _ => exact h.1.look
    | _ => exact h
theorem Goal.ext {r : R D} {Q : VK} (h : Goal K mg m W σ F H r Q) (e : Ext F H F1 H1) : Goal K mg m W σ F1 H1 r Q := by
  cases r with
  | ok d => exact fun v F' H' e' q => h v F' H' (e.trans e') (q.later e.hh)
  | err c => exact fun F' H' e' => h F' H' (e.trans e')
  | stuck => exact h
theorem GoalT.ext {r : R Bool} {Q : Bool → Hp → Prop} (h : GoalT mg W σ F H r Q) (e : Ext F H F1 H1) : GoalT mg W σ F1 H1 r Q := by
  cases r with
  | ok d => exact fun F' H' e' => h F' H' (e.trans e')
  | err c => exact fun F' H' e' => h F' H' (e.trans e')
  | stuck => exact h
theorem GoalA.ext {r : R (List D)} {Q : List V → Hp → Prop} (h : GoalA K mg m W σ F H r Q) (e : Ext F H F1 H1) : GoalA K mg m W σ F1 H1 r Q := by
  cases r with
  | ok d => exact fun v F' H' e' q => h v F' H' (e.trans e') q
  | err c => exact fun F' H' e' => h F' H' (e.trans e')
  | stuck => exact h
/-- a value that is there -/
theorem Goal.done {d : D} {v : V} {Q : VK} (h : Goal K mg m W σ F H (.ok d) Q) (s : Same F H) (q : Val K mg m H F H d v) : Q v H := h v F H (.refl s) q
/-- one after another -/
theorem Goal.bind {r : R D} {k : D → R D} {Q Q1 : VK} (h : Goal K mg m W σ F H (r.bind k) Q)
    (c : ∀ d v F1 H1, r = .ok d → Ext F H F1 H1 → Val K mg m1 H F1 H1 d v → Goal K mg m W σ F1 H1 (k d) Q → Q1 v H1) : Goal K mg m1 W σ F H r Q1 := by
  cases r with
  | ok d => exact fun v F' H' e q => c d v F' H' rfl e q (Goal.ext (r := k d) h e)
  | err c => exact h
  | stuck => exact h
theorem Goal.bindT {r : R Bool} {k : Bool → R D} {Q : VK} {Q1 : Bool → Hp → Prop} (h : Goal K mg m W σ F H (r.bind k) Q)
    (c : ∀ b F1 H1, r = .ok b → Ext F H F1 H1 → Goal K mg m W σ F1 H1 (k b) Q → Q1 b H1) : GoalT mg W σ F H r Q1 := by
  cases r with
  | ok d => exact fun F' H' e => c d F' H' rfl e (Goal.ext (r := k d) h e)
  | err c => exact h
  | stuck => exact h
theorem Goal.bindA {r : R (List D)} {k : List D → R D} {Q : VK} {Q1 : List V → Hp → Prop} (h : Goal K mg m W σ F H (r.bind k) Q)
    (c : ∀ ds vs F1 H1, r = .ok ds → Ext F H F1 H1 → ValL K mg m1 F1 H1 ds vs → Goal K mg m W σ F1 H1 (k ds) Q → Q1 vs H1) : GoalA K mg m1 W σ F H r Q1 := by
  cases r with
  | ok d => exact fun v F' H' e q => c d v F' H' rfl e q (Goal.ext (r := k d) h e)
  | err c => exact h
  | stuck => exact h
theorem GoalT.bind {r : R D} {k : D → R Bool} {Q : Bool → Hp → Prop} {Q1 : VK} (h : GoalT mg W σ F H (r.bind k) Q)
    (c : ∀ d v F1 H1, r = .ok d → Ext F H F1 H1 → Val K mg m1 H F1 H1 d v → GoalT mg W σ F1 H1 (k d) Q → Q1 v H1) : Goal K mg m1 W σ F H r Q1 := by
  cases r with
  | ok d => exact fun v F' H' e q => c d v F' H' rfl e q (GoalT.ext (r := k d) h e)
  | err c => exact h
  | stuck => exact h
theorem GoalT.bindT {r : R Bool} {k : Bool → R Bool} {Q : Bool → Hp → Prop} {Q1 : Bool → Hp → Prop} (h : GoalT mg W σ F H (r.bind k) Q)
    (c : ∀ b F1 H1, r = .ok b → Ext F H F1 H1 → GoalT mg W σ F1 H1 (k b) Q → Q1 b H1) : GoalT mg W σ F H r Q1 := by
  cases r with
  | ok d => exact fun F' H' e => c d F' H' rfl e (GoalT.ext (r := k d) h e)
  | err c => exact h
  | stuck => exact h
theorem GoalA.bind {r : R D} {k : D → R (List D)} {Q : List V → Hp → Prop} {Q1 : VK} (h : GoalA K mg m W σ F H (r.bind k) Q)
    (c : ∀ d v F1 H1, r = .ok d → Ext F H F1 H1 → Val K mg m1 H F1 H1 d v → GoalA K mg m W σ F1 H1 (k d) Q → Q1 v H1) : Goal K mg m1 W σ F H r Q1 := by
  cases r with
  | ok d => exact fun v F' H' e q => c d v F' H' rfl e q (GoalA.ext (r := k d) h e)
  | err c => exact h
  | stuck => exact h
theorem GoalA.bindA {r : R (List D)} {k : List D → R (List D)} {Q : List V → Hp → Prop} {Q1 : List V → Hp → Prop} (h : GoalA K mg m W σ F H (r.bind k) Q)
    (c : ∀ ds vs F1 H1, r = .ok ds → Ext F H F1 H1 → ValL K mg m1 F1 H1 ds vs → GoalA K mg m W σ F1 H1 (k ds) Q → Q1 vs H1) : GoalA K mg m1 W σ F H r Q1 := by
  cases r with
  | ok d => exact fun v F' H' e q => c d v F' H' rfl e q (GoalA.ext (r := k d) h e)
  | err c => exact h
  | stuck => exact h
/-- fresh is data -/
theorem Goal.frz {r : R D} {Q : VK} (h : Goal K mg .rep W σ F H r Q) : Goal K mg .fresh W σ F H r Q := by
  cases r with
  | ok d =>
    intro v F' H' e q
    have frz : FreshV K mg H F' H' d v → Q v H' := fun ⟨q, n⟩ => by
      obtain ⟨F2, f1, f2, f3, f4⟩ := q.rep e.fh
      refine h v F2 H' ⟨e.ff.trans f1, e.hh, f2, fun b hb => ?_⟩ f3
      by_cases z : F2 b = F' b
      · rw [z, e.nw b hb]
      · exact absurd (n b (f4 b z) b self_foot) hb
    cases d with
    | lst ds => exact frz q
    | dct ks => exact frz q
    | clk _ _ _ _ => exact frz q
    | _ => exact h v F' H' e q
  | err c => exact h
  | stuck => exact h
theorem Goal.rl {r : R D} {Q : VK} (h : Goal K mg .look W σ F H r Q) : Goal K mg .rep W σ F H r Q := by
  cases r with
  | ok d => exact fun v F' H' e q => h v F' H' e (Rep.look e.fh q)
  | err c => exact h
  | stuck => exact h
theorem Goal.fl {r : R D} {Q : VK} (h : Goal K mg .look W σ F H r Q) : Goal K mg .fresh W σ F H r Q := h.rl.frz
theorem LookL.len : ∀ {ds : List D} {vs : List V}, LookL K mg F H ds vs → vs.length = ds.length
  | [], _, h => by simp only [LookL] at h; subst h; rfl
  | d :: ds, vs, h => by
    simp only [LookL] at h
    obtain ⟨v, vs', rfl, _, h⟩ := h
    simp [LookL.len h]
theorem LookL.ext : ∀ {ds : List D} {vs : List V}, LookL K mg F H ds vs → Ext F H F1 H1 → LookL K mg F1 H1 ds vs
  | [], _, h, _ => h
  | d :: ds, vs, h, e => by
    simp only [LookL] at h ⊢
    obtain ⟨v, vs', h1, h2, h⟩ := h
    exact ⟨v, vs', h1, h2.ext e, h.ext e⟩
theorem RepL.look (s : Same F H) : ∀ {ds : List D} {vs : List V}, RepL K mg F ds vs → LookL K mg F H ds vs
  | [], _, h => by simpa [RepL, LookL] using h
  | d :: ds, vs, h => by
    simp only [RepL] at h
    obtain ⟨v, vs', h1, h2, h⟩ := h
    simp only [LookL]
    exact ⟨v, vs', h1, Rep.look s h2, RepL.look s h⟩
end

/-! ### expressions -/
section
variable {X : Cx} {m : Md} {O : List Nat} {W : WX} {f g h : EF} {e a b c : Expr} {pos : Pos}
theorem PD.frz (p : PD X .fresh O W f e) : PD X .rep O W f e := PE.imp p fun σ H Q ⟨ρ, F, s, q⟩ => ⟨ρ, F, s, q.frz⟩
theorem PD.rl (p : PD X .rep O W f e) : PD X .look O W f e := PE.imp p fun σ H Q ⟨ρ, F, s, q⟩ => ⟨ρ, F, s, q.rl⟩
theorem PD.fl (p : PD X .fresh O W f e) : PD X .look O W f e := p.frz.rl
theorem pd_var {i : Nat} {x : Str} (hO : O.contains i = false) (hN : X.N[i]? = some x) (hv : Vis X.env.scope x) (hd : (x == ("__debug__" : Str)) = false := by decide) (hcd : (x == ("__classdict__" : Str)) = false := by decide) : PD X .rep O W (eV i) (.Name x pos) := by
  refine PE.imp (pe_var hN hv hd hcd) fun σ H Q ⟨ρ, F, s, q⟩ => ?_
  unfold eV at q
  split at q
  · rename_i d hd
    obtain ⟨v, h1, h2⟩ := s.dat i d hd (by simpa using hO)
    exact ⟨v, h1, q v F H (.refl s.sub) h2⟩
  · exact q.elim
theorem pd_varL {i : Nat} {x : Str} (hN : X.N[i]? = some x) (hv : Vis X.env.scope x) (hd : (x == ("__debug__" : Str)) = false := by decide) (hcd : (x == ("__classdict__" : Str)) = false := by decide) : PD X .look O W (eV i) (.Name x pos) := by
  refine PE.imp (pe_var hN hv hd hcd) fun σ H Q ⟨ρ, F, s, q⟩ => ?_
  unfold eV at q
  split at q
  · rename_i d hd
    by_cases hO : i ∈ O
    · obtain ⟨o, h2, h3, _⟩ := s.own i d hd hO
      exact ⟨_, h2, q _ F H (.refl s.sub) h3.look⟩
    · obtain ⟨v, h1, h2⟩ := s.dat i d hd hO
      exact ⟨v, h1, q v F H (.refl s.sub) (Rep.look s.sub h2)⟩
  · exact q.elim
/-- a constant of any kind -/
theorem pd_c {v : V} {d : D} (p : PE X e (tC v)) (r : ∀ F, Rep X.K X.mg F d v) : PD X .rep O W (eC d) e :=
  PE.imp p fun σ H Q ⟨ρ, F, s, q⟩ => q v F H (.refl s.sub) (r F)
theorem pd_int {i j} : PD X .rep O W (eC (.int i)) (.Constant (.int i) j pos) := pd_c pe_int fun _ => by simp [Rep]
theorem pd_bl {i j} : PD X .rep O W (eC (.bl i)) (.Constant (.bool i) j pos) := pd_c pe_bl fun _ => by simp [Rep]
theorem pd_non {j} : PD X .rep O W (eC .non) (.Constant .none j pos) := pd_c pe_non fun _ => by simp [Rep]
theorem pd_str {i j} : PD X .rep O W (eC (.str i)) (.Constant (.str i) j pos) := pd_c pe_str fun _ => by simp [Rep]
/-- a module's int or text -/
theorem pd_globI {x : Str} {i : Int} {t : Tok} (hg : Gl X x) (hm : X.mg x = some (.int i t)) (hd : (x == ("__debug__" : Str)) = false := by decide) : PD X .rep O W (eC (.int i)) (.Name x pos) :=
  pd_c (pe_glob hg hm (v := .int i) ⟨t, rfl⟩ hd) fun _ => by simp [Rep]
theorem pd_globS {x z : Str} {t : Tok} (hg : Gl X x) (hm : X.mg x = some (.str z t)) (hd : (x == ("__debug__" : Str)) = false := by decide) : PD X .rep O W (eC (.str z)) (.Name x pos) :=
  pd_c (pe_glob hg hm (v := .str z) ⟨t, rfl⟩ hd) fun _ => by simp [Rep]

/-- an operator's sense, by values -/
def Ok2 (K : PySem.W.Frag) (mg : Str → Option Value) (r : R2) (op : D → D → R D) : Prop :=
  ∀ (W : WX) (σ : L2.St) (F H : Hp) (dx dy : D) (x y : V) (Q : VK), Same F H → Look K mg F H dx x → Look K mg F H dy y → Goal K mg .fresh W σ F H (op dx dy) Q → r x y H Q
def Ok1 (K : PySem.W.Frag) (mg : Str → Option Value) (r : V → Hp → VK → Prop) (op : D → R D) : Prop :=
  ∀ (W : WX) (σ : L2.St) (F H : Hp) (dx : D) (x : V) (Q : VK), Same F H → Look K mg F H dx x → Goal K mg .fresh W σ F H (op dx) Q → r x H Q
theorem tD_op {r : R2} {op : D → D → R D} (hs : Ok2 X.K X.mg r op) {σ : L2.St} {H : Hp} {Q : VK} (q : tD X.K X.mg .fresh O W (e2 op f g) σ H Q) : tOp r (tD X.K X.mg .look O W f) (tD X.K X.mg .look O W g) σ H Q := by
  obtain ⟨ρ, F, s, q⟩ := q
  refine ⟨ρ, F, s, Goal.bind q fun dx x F1 H1 _ e1 l1 q1 => ⟨ρ, F1, s.ext e1, Goal.bind q1 fun dy y F2 H2 _ e2 l2 q2 => ?_⟩⟩
  exact hs W σ F2 H2 dx dy x y Q e2.fh (Look.ext l1 e2) l2 q2
theorem pd_op {o : Operator} {r : R2} {op : D → D → R D} (ho : OpR X (binaryOp o) r) (hs : Ok2 X.K X.mg r op) (ha : PD X .look O W f a) (hb : PD X .look O W g b) : PD X .fresh O W (e2 op f g) (.BinOp a o b pos) :=
  PE.imp (pe_op ho ha hb) fun σ H Q q => tD_op hs q
theorem pd_cmp {o : CmpOp} {r : R2} {op : D → D → R D} (ho : OpR X (compareOp o) r) (hs : Ok2 X.K X.mg r op) (ha : PD X .look O W f a) (hb : PD X .look O W g b) (hm : behindInMarks o b = false) : PD X .fresh O W (e2 op f g) (.Compare a [o] [b] pos) :=
  PE.imp (pe_cmpR ho ha hb hm) fun σ H Q q => tD_op hs q
theorem Look.bl {K : PySem.W.Frag} {mg : Str → Option Value} {F H : Hp} {b : Bool} {v : V} (h : Look K mg F H (.bl b) v) : v = .bl b := by simpa [Look, Rep] using h
theorem Look.int {K : PySem.W.Frag} {mg : Str → Option Value} {F H : Hp} {b : Int} {v : V} (h : Look K mg F H (.int b) v) : v = .int b := by simpa [Look, Rep] using h
theorem Look.str {K : PySem.W.Frag} {mg : Str → Option Value} {F H : Hp} {b : Str} {v : V} (h : Look K mg F H (.str b) v) : v = .str b := by simpa [Look, Rep] using h
theorem Val.bl {K : PySem.W.Frag} {mg : Str → Option Value} {H0 F H : Hp} {b : Bool} {v : V} (h : Val K mg .look H0 F H (.bl b) v) : v = .bl b := Look.bl (K := K) (mg := mg) (F := F) (H := H) h
theorem tT_of {t : TE} {σ : L2.St} {H : Hp} {Q : Bool → Hp → Prop} (i : ∀ Q, tD X.K X.mg .look O W f σ H Q → t σ H Q) (q : tT X.K X.mg O W (tV f) σ H Q) : tTest t σ H Q := by
  obtain ⟨ρ, F, s, q⟩ := q
  refine i _ ⟨ρ, F, s, GoalT.bind q fun d v F1 H1 _ e1 l q => ?_⟩
  cases d with
  | bl b =>
    cases Val.bl l
    exact ⟨b, rfl, q F1 H1 (.refl e1.fh)⟩
  | _ => exact q.elim
/-- a comparison as a test -/
theorem ptd_cmp {o : CmpOp} {r : R2} {op : D → D → R D} (ho : OpR X (compareOp o) r) (hs : Ok2 X.K X.mg r op) (ha : PD X .look O W f a) (hb : PD X .look O W g b) (hm : behindInMarks o b = false) : PTD X O W (tV (e2 op f g)) (.Compare a [o] [b] pos) :=
  PT.imp (pt_cmpR ho ha hb hm) fun σ H Q q => tT_of (t := tOp r (tD X.K X.mg .look O W f) (tD X.K X.mg .look O W g)) (fun Q q => tD_op hs (let ⟨ρ, F, s, q⟩ := q; ⟨ρ, F, s, q.fl⟩)) q
/-- a value as a test -/
theorem ptd_val (p : PD X .look O W f e) (he : ∀ whole, isTrue e X.env whole = (do let v ← whole; standAt e.pos; holding [v] (truthy v)) := by intro _; rfl) : PTD X O W (tV f) e :=
  PT.imp (pt_val p he) fun σ H Q q => by
    obtain ⟨k, hk⟩ : ∃ k, k = tTest (tD X.K X.mg .look O W f) := ⟨_, rfl⟩
    exact tT_of (t := tD X.K X.mg .look O W f) (fun Q q => q) q
theorem ptd_not {t : TF} (p : PTD X O W t a) : PTD X O W (tNotF t) (.UnaryOp .Not a pos) :=
  PT.imp (pt_not p) fun σ H Q ⟨ρ, F, s, q⟩ => ⟨ρ, F, s, GoalT.bindT q fun b F1 H1 _ e1 q => q F1 H1 (.refl e1.fh)⟩
variable {t u : TF} {rest : List Expr}
theorem ptd_and1 (p : PTD X O W t a) : PWD X O W t (.BoolOp .And [a] pos) := pw_and1 p
theorem ptd_or1 (p : PTD X O W t a) : PWD X O W t (.BoolOp .Or [a] pos) := pw_or1 p
theorem ptd_and (p : PTD X O W t a) (q : PWD X O W u (.BoolOp .And (b :: rest) pos)) : PWD X O W (tAndF t u) (.BoolOp .And (a :: b :: rest) pos) :=
  PW.imp (pw_and p q) fun σ H Q ⟨ρ, F, s, q⟩ => ⟨ρ, F, s, GoalT.bindT q fun b F1 H1 _ e1 q => by
    cases b with
    | true => exact ⟨ρ, F1, s.ext e1, q⟩
    | false => exact q F1 H1 (.refl e1.fh)⟩
theorem ptd_or (p : PTD X O W t a) (q : PWD X O W u (.BoolOp .Or (b :: rest) pos)) : PWD X O W (tOrF t u) (.BoolOp .Or (a :: b :: rest) pos) :=
  PW.imp (pw_or p q) fun σ H Q ⟨ρ, F, s, q⟩ => ⟨ρ, F, s, GoalT.bindT q fun b F1 H1 _ e1 q => by
    cases b with
    | false => exact ⟨ρ, F1, s.ext e1, q⟩
    | true => exact q F1 H1 (.refl e1.fh)⟩
theorem PWD.pt (p : PWD X O W t e) : PTD X O W t e := PW.pt p
theorem pd_one {op} (p : PD X m O W f a) : PD X m O W f (.BoolOp op [a] pos) := pe_one p
theorem pd_and (p : PD X .look O W f a) (q : PD X m O W g (.BoolOp .And (b :: rest) pos)) : PD X m O W (eAnd f g) (.BoolOp .And (a :: b :: rest) pos) :=
  PE.imp (pe_and p q) fun σ H Q ⟨ρ, F, s, q⟩ => ⟨ρ, F, s, Goal.bind q fun d v F1 H1 _ e1 l q => by
    cases d with
    | bl b =>
      cases Val.bl l
      refine ⟨b, rfl, ?_⟩
      cases b with
      | true => exact ⟨ρ, F1, s.ext e1, q⟩
      | false => exact q.done e1.fh (by cases m <;> simp [Val, Look, Rep])
    | _ => exact q.elim⟩
theorem pd_or (p : PD X .look O W f a) (q : PD X m O W g (.BoolOp .Or (b :: rest) pos)) : PD X m O W (eOr f g) (.BoolOp .Or (a :: b :: rest) pos) :=
  PE.imp (pe_or p q) fun σ H Q ⟨ρ, F, s, q⟩ => ⟨ρ, F, s, Goal.bind q fun d v F1 H1 _ e1 l q => by
    cases d with
    | bl b =>
      cases Val.bl l
      refine ⟨b, rfl, ?_⟩
      cases b with
      | false => exact ⟨ρ, F1, s.ext e1, q⟩
      | true => exact q.done e1.fh (by cases m <;> simp [Val, Look, Rep])
    | _ => exact q.elim⟩
theorem pd_not (p : PD X .look O W f a) : PD X .fresh O W (eNot f) (.UnaryOp .Not a pos) :=
  PE.imp (pe_not p) fun σ H Q ⟨ρ, F, s, q⟩ => ⟨ρ, F, s, Goal.bind q fun d v F1 H1 _ e1 l q => by
    cases d with
    | bl b =>
      cases Val.bl l
      exact ⟨b, rfl, q.done e1.fh (by simp [Val, Rep])⟩
    | _ => exact q.elim⟩
theorem pd_un {o : UnaryOp} {r : V → Hp → VK → Prop} {op : D → R D} (ho : UnR X (unaryOp o) r) (hs : Ok1 X.K X.mg r op) (p : PD X .look O W f a) : PD X .fresh O W (e1 op f) (.UnaryOp o a pos) :=
  PE.imp (pe_un ho p) fun σ H Q ⟨ρ, F, s, q⟩ => ⟨ρ, F, s, Goal.bind q fun d v F1 H1 _ e1 l q => hs W σ F1 H1 d v Q e1.fh l q⟩
theorem pd_if (p : PTD X O W t c) (pa : PD X m O W f a) (pb : PD X m O W g b) : PD X m O W (eIf t f g) (.IfExp c a b pos) :=
  PE.imp (pe_ifExp p pa pb) fun σ H Q ⟨ρ, F, s, q⟩ => ⟨ρ, F, s, Goal.bindT q fun b F1 H1 _ e1 q => by
    cases b with
    | true => exact ⟨ρ, F1, s.ext e1, q⟩
    | false => exact ⟨ρ, F1, s.ext e1, q⟩⟩
theorem Look.isNone {K : PySem.W.Frag} {mg : Str → Option Value} {F H : Hp} {d : D} {v : V} (h : Look K mg F H d v) : decide (v = .non) = d.isNone := by
  cases d with
  | non => simp [Look, Rep] at h; subst h; rfl
  | bl _ => simp [Look, Rep] at h; subst h; rfl
  | int _ => simp [Look, Rep] at h; subst h; rfl
  | str _ => simp [Look, Rep] at h; subst h; rfl
  | tup _ => simp only [Look, Rep] at h; obtain ⟨a, vs, rfl, _⟩ := h; rfl
  | lst _ => obtain ⟨a, vs, rfl, _⟩ := h; rfl
  | exc _ _ => simp only [Look, Rep] at h; subst h; rfl
  | fn _ => simp only [Look, Rep] at h; obtain ⟨a, rfl, _⟩ := h; rfl
  | dct _ => obtain ⟨a, rfl, _⟩ := h; rfl
  | dtt _ => simp only [Look, Rep] at h; obtain ⟨a, rfl, _⟩ := h; rfl
  | clk _ _ _ _ => simp only [Look, Rep] at h; obtain ⟨a, rfl⟩ := h; rfl
  | scr _ => simp only [Look, Rep] at h; obtain ⟨a, rfl, _⟩ := h; rfl
theorem Val.isN {K : PySem.W.Frag} {mg : Str → Option Value} {H0 F H : Hp} {d : D} {v : V} (h : Val K mg .look H0 F H d v) : decide (v = .non) = d.isNone := Look.isNone (K := K) (mg := mg) (F := F) (H := H) h
theorem pd_isN {j pos'} (p : PD X .look O W f a) : PD X .fresh O W (eNone f) (.Compare a [.Is] [.Constant .none j pos'] pos) :=
  PE.imp (pe_cmp (pc_isN p)) fun σ H Q ⟨ρ, F, s, q⟩ => ⟨ρ, F, s, Goal.bind q fun d v F1 H1 _ e1 l q => q.done e1.fh (by simp [Val, Rep, Look.isNone l])⟩
theorem pd_notN {j pos'} (p : PD X .look O W f a) : PD X .fresh O W (eNotNone f) (.Compare a [.IsNot] [.Constant .none j pos'] pos) :=
  PE.imp (pe_cmp (pc_notN p)) fun σ H Q ⟨ρ, F, s, q⟩ => ⟨ρ, F, s, Goal.bind q fun d v F1 H1 _ e1 l q => q.done e1.fh (by simp [Val, Rep, Look.isNone l])⟩
theorem ptd_isN {j pos'} (p : PD X .look O W f a) : PTD X O W (tV (eNone f)) (.Compare a [.Is] [.Constant .none j pos'] pos) :=
  PT.imp (pt_cmp (pc_isN p)) fun σ H Q q => tT_of (t := tIsN (tD X.K X.mg .look O W f)) (fun Q ⟨ρ, F, s, q⟩ => ⟨ρ, F, s, Goal.bind q fun d v F1 H1 _ e1 l q => q.done e1.fh (by simp [Val, Look, Rep, Look.isNone l])⟩) q
theorem ptd_notN {j pos'} (p : PD X .look O W f a) : PTD X O W (tV (eNotNone f)) (.Compare a [.IsNot] [.Constant .none j pos'] pos) :=
  PT.imp (pt_cmp (pc_notN p)) fun σ H Q q => tT_of (t := tNotN (tD X.K X.mg .look O W f)) (fun Q ⟨ρ, F, s, q⟩ => ⟨ρ, F, s, Goal.bind q fun d v F1 H1 _ e1 l q => q.done e1.fh (by simp [Val, Look, Rep, Look.isNone l])⟩) q
theorem tD_chain {r r' : R2} {op op' : D → D → R D} (hs : Ok2 X.K X.mg r op) (hs' : Ok2 X.K X.mg r' op') {σ : L2.St} {H : Hp} {Q : VK} (q : tD X.K X.mg .fresh O W (eChain op op' f g h) σ H Q) :
    tChain r r' (tD X.K X.mg .look O W f) (tD X.K X.mg .look O W g) (tD X.K X.mg .look O W h) σ H Q := by
  obtain ⟨ρ, F, s, q⟩ := q
  refine ⟨ρ, F, s, Goal.bind q fun dx x F1 H1 _ e1 l1 q1 => ⟨ρ, F1, s.ext e1, Goal.bind q1 fun dy y F2 H2 _ e2 l2 q2 => ?_⟩⟩
  refine hs W σ F2 H2 dx dy x y _ e2.fh (Look.ext l1 e2) l2 (Goal.bind q2 fun dz z F3 H3 _ e3 l3 q3 => ?_)
  cases dz with
  | bl b =>
    have l3' : z = .bl b := by simpa [Val, Rep] using l3
    subst l3'
    refine ⟨b, rfl, ?_⟩
    cases b with
    | true => exact ⟨ρ, F3, ((s.ext e1).ext e2).ext e3, Goal.bind q3 fun dw w F4 H4 _ e4 l4 q4 => hs' W σ F4 H4 dy dw y w Q e4.fh ((Look.ext l2 e3).ext e4) l4 q4⟩
    | false => exact q3.done e3.fh (by simp [Val, Rep])
  | _ => exact q3.elim
theorem pd_chain {o o' : CmpOp} {r r' : R2} {op op' : D → D → R D} (ho : OpR X (compareOp o) r) (ho' : OpR X (compareOp o') r') (hs : Ok2 X.K X.mg r op) (hs' : Ok2 X.K X.mg r' op')
    (pa : PD X .look O W f a) (pb : PD X .look O W g b) (pc : PD X .look O W h c) (hm : lastMarks [o, o'] [b, c] = false := by with_unfolding_all rfl) : PD X .fresh O W (eChain op op' f g h) (.Compare a [o, o'] [b, c] pos) :=
  PE.imp (pe_chain ho ho' pa pb pc hm) fun σ H Q q => tD_chain hs hs' q
theorem ptd_chain {o o' : CmpOp} {r r' : R2} {op op' : D → D → R D} (ho : OpR X (compareOp o) r) (ho' : OpR X (compareOp o') r') (hs : Ok2 X.K X.mg r op) (hs' : Ok2 X.K X.mg r' op')
    (pa : PD X .look O W f a) (pb : PD X .look O W g b) (pc : PD X .look O W h c) (hm : lastMarks [o, o'] [b, c] = false := by with_unfolding_all rfl) : PTD X O W (tV (eChain op op' f g h)) (.Compare a [o, o'] [b, c] pos) :=
  PT.imp (pt_chain ho ho' pa pb pc hm) fun σ H Q q => tT_of (t := tChain r r' (tD X.K X.mg .look O W f) (tD X.K X.mg .look O W g) (tD X.K X.mg .look O W h)) (fun Q ⟨ρ, F, s, q⟩ => tD_chain hs hs' ⟨ρ, F, s, q.fl⟩) q

/-! ### lists of arguments -/
variable {es : List Expr} {ar : AF}
theorem pad_nil : PAD X m O W aN [] := PA.imp pa_nil fun σ H Q ⟨ρ, F, s, q⟩ => q [] F H (.refl s.sub) (by cases m <;> simp [ValL, LookL, RepL])
theorem pad_cons (p : PD X .rep O W f e) (q : PAD X .rep O W ar es) (hs : starEach (e :: es) X.env = (false, eval e X.env) :: starEach es X.env := by rfl) : PAD X .rep O W (aC f ar) (e :: es) :=
  PA.imp (pa_cons p q hs) fun σ H Q ⟨ρ, F, s, q⟩ => ⟨ρ, F, s, GoalA.bind q fun d v F1 H1 _ e1 l q => ⟨ρ, F1, s.ext e1, GoalA.bindA q fun ds vs F2 H2 _ e2 l2 q => by
    refine q (v :: vs) F2 H2 (.refl e2.fh) ?_
    have l' : Rep X.K X.mg F1 d v := l
    have l2' : RepL X.K X.mg F2 ds vs := l2
    show RepL X.K X.mg F2 (d :: ds) (v :: vs)
    simp only [RepL]
    exact ⟨v, vs, rfl, Rep.mono e2.ff _ _ l', l2'⟩⟩⟩
theorem pad_consL (p : PD X .look O W f e) (q : PAD X .look O W ar es) (hs : starEach (e :: es) X.env = (false, eval e X.env) :: starEach es X.env := by rfl) : PAD X .look O W (aC f ar) (e :: es) :=
  PA.imp (pa_cons p q hs) fun σ H Q ⟨ρ, F, s, q⟩ => ⟨ρ, F, s, GoalA.bind q fun d v F1 H1 _ e1 l q => ⟨ρ, F1, s.ext e1, GoalA.bindA q fun ds vs F2 H2 _ e2 l2 q => by
    refine q (v :: vs) F2 H2 (.refl e2.fh) ?_
    have l' : Look X.K X.mg F1 H1 d v := l
    have l2' : LookL X.K X.mg F2 H2 ds vs := l2
    show LookL X.K X.mg F2 H2 (d :: ds) (v :: vs)
    simp only [LookL]
    exact ⟨v, vs, rfl, l'.ext e2, l2'⟩⟩⟩
theorem pd_tup {x1} (p : PAD X .rep O W ar es) : PD X .rep O W (eTup ar) (.Tuple es x1 pos) :=
  PE.imp (pe_tup p) fun σ H Q ⟨ρ, F, s, q⟩ => ⟨ρ, F, s, Goal.bindA q fun ds vs F1 H1 _ e1 l q => by
    have l' : RepL X.K X.mg F1 ds vs := l
    by_cases hz : ds.length ≤ lim
    · rw [if_pos hz] at q
      rw [lim_eq] at hz
      refine ⟨by rw [l'.len]; exact hz, fun p hp => ?_⟩
      refine q (.ref p) _ _ (Ext.new e1.fh hp) ?_
      show Rep X.K X.mg _ (.tup ds) (.ref p)
      simp only [Rep]
      exact ⟨p, vs, rfl, upd_same, RepL.mono (same_upd (e1.fh.free hp)) _ _ l', hz⟩
    · rw [if_neg hz] at q
      exact q.elim⟩
theorem pd_lst (p : PAD X .rep O W ar es) : PD X .fresh O W (eLst ar) (.List es pos) :=
  PE.imp (pe_lst p) fun σ H Q ⟨ρ, F, s, q⟩ => ⟨ρ, F, s, Goal.bindA q fun ds vs F1 H1 _ e1 l q => by
    have l' : RepL X.K X.mg F1 ds vs := l
    by_cases hz : ds.length ≤ lim
    · rw [if_pos hz] at q
      rw [lim_eq] at hz
      refine ⟨by rw [l'.len]; exact hz, fun p hp => ?_⟩
      refine q (.ref p) _ _ (Ext.newH e1.fh hp) ?_
      exact freshLst upd_same (e1.fh.free hp) l' hz hp
    · rw [if_neg hz] at q
      exact q.elim⟩
end
end RT

namespace RT
open PySem PySem.Spec PyProof.Rows L2
/-! ### operators -/
section
variable {K : PySem.W.Frag} {mg : Str → Option Value} {W : WX} {σ : L2.St} {F H : Hp} {Q : VK}
/-- a scalar is handed on -/
theorem gBl {b : Bool} (s : Same F H) (q : Goal K mg .fresh W σ F H (.ok (.bl b)) Q) : Q (.bl b) H := q.done s (by simp [Val, Rep])
theorem gInt {b : Int} (s : Same F H) (q : Goal K mg .fresh W σ F H (.ok (.int b)) Q) : Q (.int b) H := q.done s (by simp [Val, Rep])
theorem gStr {b : Str} (s : Same F H) (q : Goal K mg .fresh W σ F H (.ok (.str b)) Q) : Q (.str b) H := q.done s (by simp [Val, Rep])
theorem gNon (s : Same F H) (q : Goal K mg .fresh W σ F H (.ok .non) Q) : Q .non H := q.done s (by simp [Val, Rep])
/-- a new tuple -/
theorem gTup {ds : List D} {vs : List V} (s : Same F H) (l : RepL K mg F ds vs) (hz : ds.length ≤ sizeLine) (q : Goal K mg .fresh W σ F H (.ok (.tup ds)) Q) : ∀ p, H p = none → Q (.ref p) (upd H p (.tup vs)) := fun p hp =>
  q (.ref p) _ _ (Ext.new s hp) (by
    show Rep K mg _ (.tup ds) (.ref p)
    simp only [Rep]
    exact ⟨p, vs, rfl, upd_same, RepL.mono (same_upd (s.free hp)) _ _ l, hz⟩)
/-- a new list -/
theorem gLst {ds : List D} {vs : List V} (s : Same F H) (l : RepL K mg F ds vs) (hz : ds.length ≤ sizeLine) (q : Goal K mg .fresh W σ F H (.ok (.lst ds)) Q) : ∀ p, H p = none → Q (.ref p) (upd H p (.lst vs)) := fun p hp =>
  q (.ref p) _ _ (Ext.newH s hp) (freshLst upd_same (s.free hp) l hz hp)
theorem Look.lst {ds : List D} {v : V} (h : Look K mg F H (.lst ds) v) : ∃ a vs, v = .ref a ∧ H a = some (.lst vs) ∧ RepL K mg F ds vs ∧ ds.length ≤ sizeLine := h
theorem Look.tup {ds : List D} {v : V} (s : Same F H) (h : Look K mg F H (.tup ds) v) : ∃ a vs, v = .ref a ∧ H a = some (.tup vs) ∧ RepL K mg F ds vs ∧ ds.length ≤ sizeLine := by
  simp only [Look, Rep] at h
  obtain ⟨a, vs, e, q, r, z⟩ := h
  exact ⟨a, vs, e, s _ _ q, r, z⟩
theorem rI_int {C : Int → Int → Prop} {g : Int → Int → Int} {x y : V} {i j : Int} {dx dy : D} (s : Same F H) (hx : Look K mg F H (.int i) x) (hy : Look K mg F H (.int j) y) (c : C i j) (q : Goal K mg .fresh W σ F H (.ok (.int (g i j))) Q) : rI C (fun i j => .int (g i j)) x y H Q :=
  ⟨i, j, Look.int hx, Look.int hy, c, gInt s q⟩
theorem small_ok {i : Int} (h : D.small i = true) : -(2 ^ 64) < i ∧ i < 2 ^ 64 := by
  unfold D.small at h
  rw [Bool.and_eq_true] at h
  exact ⟨of_decide_eq_true h.1, of_decide_eq_true h.2⟩
end
section
variable {X : Cx} {K : PySem.W.Frag} {mg : Str → Option Value}
theorem OpR.or4 {f : Value → Value → Sem Value} {r1 r2 r3 r4 : R2} (h1 : OpR X f r1) (h2 : OpR X f r2) (h3 : OpR X f r3) (h4 : OpR X f r4) : OpR X f (fun x y H Q => (r1 x y H Q ∨ r2 x y H Q) ∨ (r3 x y H Q ∨ r4 x y H Q)) := (h1.or h2).or (h3.or h4)
def rAddS : R2 := fun x y H Q => ∃ i j, x = .str i ∧ y = .str j ∧ i.length + j.length ≤ sizeLine ∧ Q (.str (i ++ j)) H
def rAddA (K : PySem.W.Frag) : R2 := fun x y H Q => ((rI0 fun i j => .int (i + j)) x y H Q ∨ rCatA K x y H Q) ∨ (rCat x y H Q ∨ rAddS x y H Q)
theorem op_addA : OpR X (binaryOp .Add) (rAddA X.K) := OpR.or4 op_add op_catA op_cat op_add_str
theorem ok_add : Ok2 K mg (rAddA K) D.add := by
  intro W σ F H dx dy x y Q s hx hy q
  cases dx with
  | int i =>
    cases dy with
    | int j => exact .inl (.inl ⟨i, j, Look.int hx, Look.int hy, gInt s q⟩)
    | _ => exact q.elim
  | tup xs =>
    cases dy with
    | tup ys =>
      simp only [D.add] at q
      split at q
      · rename_i hz
        rw [lim_eq] at hz
        obtain ⟨a, vs, rfl, ha, ra, _⟩ := hx.tup s
        obtain ⟨b, ws, rfl, hb, rb, zb⟩ := hy.tup s
        have hx' : Rep K mg F (.tup xs) (.ref a) := hx
        have hy' : Rep K mg F (.tup ys) (.ref b) := hy
        refine .inl (.inr ⟨a, b, vs, ws, rfl, rfl, SqT.of ha, SqT.of hb, by rw [ra.len, rb.len]; exact hz, fun e => ?_, fun _ e => ?_, fun _ _ => ?_⟩)
        · have e' : xs = [] := List.eq_nil_of_length_eq_zero (by rw [← ra.len, e]; rfl)
          subst e'
          exact q.done s (show Rep K mg F (.tup ([] ++ ys)) (.ref b) by simpa using hy')
        · have e' : ys = [] := List.eq_nil_of_length_eq_zero (by rw [← rb.len, e]; rfl)
          subst e'
          exact q.done s (show Rep K mg F (.tup (xs ++ [])) (.ref a) by simpa using hx')
        · exact gTup s (ra.append rb) (by rw [List.length_append]; exact hz) q
      · exact q.elim
    | _ => exact q.elim
  | lst xs =>
    cases dy with
    | lst ys =>
      simp only [D.add] at q
      split at q
      · rename_i hz
        rw [lim_eq] at hz
        obtain ⟨a, vs, rfl, ha, ra, _⟩ := hx.lst
        obtain ⟨b, ws, rfl, hb, rb, zb⟩ := hy.lst
        exact .inr (.inl ⟨a, b, vs, ws, rfl, rfl, ha, hb, by rw [ra.len, rb.len]; exact hz, gLst s (ra.append rb) (by rw [List.length_append]; exact hz) q⟩)
      · exact q.elim
    | _ => exact q.elim
  | str i =>
    cases dy with
    | str j =>
      simp only [D.add] at q
      split at q
      · rename_i hz
        rw [lim_eq] at hz
        exact .inr (.inr ⟨i, j, Look.str hx, Look.str hy, hz, gStr s q⟩)
      · exact q.elim
    | _ => exact q.elim
  | _ => cases dy <;> exact q.elim
theorem ok_sub : Ok2 K mg (rI0 fun i j => .int (i - j)) D.sub := by
  intro W σ F H dx dy x y Q s hx hy q
  cases dx with
  | int i =>
    cases dy with
    | int j => exact ⟨i, j, Look.int hx, Look.int hy, gInt s q⟩
    | _ => exact q.elim
  | _ => cases dy <;> exact q.elim
def rMulA (K : PySem.W.Frag) : R2 := fun x y H Q => (rI CMul fun i j => .int (i * j)) x y H Q ∨ (rRepT K x y H Q ∨ rRep x y H Q)
theorem op_mulA : OpR X (binaryOp .Mult) (rMulA X.K) := op_mul.or (op_repT.or op_rep)
theorem rep_len {α : Type} (xs : List α) : ∀ n : Nat, (List.replicate n xs).flatten.length = xs.length * n
  | 0 => by simp
  | n + 1 => by rw [List.replicate_succ, List.flatten_cons, List.length_append, rep_len xs n, Nat.mul_succ, Nat.add_comm]
theorem ok_mul : Ok2 K mg (rMulA K) D.mul := by
  intro W σ F H dx dy x y Q s hx hy q
  cases dx with
  | int i =>
    cases dy with
    | int j =>
      simp only [D.mul] at q
      split at q
      · rename_i hz
        rw [Bool.or_eq_true] at hz
        refine .inl ⟨i, j, Look.int hx, Look.int hy, ?_, gInt s q⟩
        rcases hz with hz | hz
        · exact .inl (small_ok hz)
        · exact .inr (small_ok hz)
      · exact q.elim
    | _ => exact q.elim
  | tup xs =>
    cases dy with
    | int k =>
      simp only [D.mul] at q
      split at q
      · rename_i hz
        simp only [Bool.and_eq_true, decide_eq_true_eq, Bool.not_eq_true', List.isEmpty_eq_false_iff] at hz
        obtain ⟨⟨⟨h1, h2⟩, h3⟩, h4⟩ := hz
        obtain ⟨a, vs, rfl, ha, ra, _⟩ := hx.tup s
        refine .inr (.inl ⟨a, k, vs, rfl, Look.int hy, SqT.of ha, fun e => h1 (List.eq_nil_of_length_eq_zero (by rw [← ra.len, e]; rfl)), h2, h3, by rw [ra.len]; exact h4, ?_⟩)
        refine gTup s (ra.rep k.toNat) ?_ q
        rw [rep_len, sizeLine_eq]
        have h5 : k.toNat ≤ 1000 := by omega
        exact Nat.le_trans (Nat.mul_le_mul h4 h5) (by decide)
      · exact q.elim
    | _ => exact q.elim
  | lst xs =>
    cases dy with
    | int k =>
      simp only [D.mul] at q
      split at q
      · rename_i hz
        simp only [Bool.and_eq_true, decide_eq_true_eq] at hz
        obtain ⟨⟨h1, h2⟩, h3⟩ := hz
        rw [lim_eq] at h3
        obtain ⟨a, vs, rfl, ha, ra, _⟩ := hx.lst
        exact .inr (.inr ⟨a, k, vs, rfl, Look.int hy, ha, h1, h2, by rw [ra.len]; exact h3, gLst s (ra.rep k.toNat) (by rw [rep_len]; exact h3) q⟩)
      · exact q.elim
    | _ => exact q.elim
  | _ => cases dy <;> exact q.elim
theorem ok_fdiv : Ok2 K mg (rI CDivW fun i j => .int (i / j)) D.fdiv := by
  intro W σ F H dx dy x y Q s hx hy q
  cases dx with
  | int i =>
    cases dy with
    | int j =>
      simp only [D.fdiv] at q
      split at q
      · rename_i hz
        simp only [Bool.and_eq_true, decide_eq_true_eq] at hz
        exact ⟨i, j, Look.int hx, Look.int hy, wide_div (b := 64) hz.1 (by omega) (by decide) (by decide), gInt s q⟩
      · exact q.elim
    | _ => exact q.elim
  | _ => cases dy <;> exact q.elim
theorem ok_mod : Ok2 K mg (rI (fun _ j => 0 < j) fun i j => .int (i % j)) D.mod := by
  intro W σ F H dx dy x y Q s hx hy q
  cases dx with
  | int i =>
    cases dy with
    | int j =>
      simp only [D.mod] at q
      split at q
      · rename_i hz
        exact ⟨i, j, Look.int hx, Look.int hy, hz, gInt s q⟩
      · exact q.elim
    | _ => exact q.elim
  | _ => cases dy <;> exact q.elim
theorem ok_pow : Ok2 K mg (rI CPow fun i j => .int (i ^ j.toNat)) D.pow := by
  intro W σ F H dx dy x y Q s hx hy q
  cases dx with
  | int i =>
    cases dy with
    | int j =>
      simp only [D.pow] at q
      split at q
      · rename_i hz
        simp only [Bool.and_eq_true, decide_eq_true_eq] at hz
        exact ⟨i, j, Look.int hx, Look.int hy, ⟨hz.1.1, hz.1.2, hz.2⟩, gInt s q⟩
      · exact q.elim
    | _ => exact q.elim
  | _ => cases dy <;> exact q.elim
theorem ok_neg : Ok1 K mg (rU fun i => .int (-i)) D.neg := by
  intro W σ F H dx x Q s hx q
  cases dx with
  | int i => exact ⟨i, Look.int hx, gInt s q⟩
  | _ => exact q.elim
theorem ok_cmp {p : Int → Int → Bool} : Ok2 K mg (rI0 fun i j => .bl (p i j)) (D.cmp p) := by
  intro W σ F H dx dy x y Q s hx hy q
  cases dx with
  | int i =>
    cases dy with
    | int j => exact ⟨i, j, Look.int hx, Look.int hy, gBl s q⟩
    | _ => exact q.elim
  | _ => cases dy <;> exact q.elim
theorem ok_isB : Ok2 K mg (rIsB) D.isB := by
  intro W σ F H dx dy x y Q s hx hy q
  cases dx with
  | bl i =>
    cases dy with
    | bl j => exact ⟨i, j, Look.bl hx, Look.bl hy, gBl s q⟩
    | _ => exact q.elim
  | _ => cases dy <;> exact q.elim
theorem ok_isNotB : Ok2 K mg (rNotB) D.isNotB := by
  intro W σ F H dx dy x y Q s hx hy q
  cases dx with
  | bl i =>
    cases dy with
    | bl j => exact ⟨i, j, Look.bl hx, Look.bl hy, gBl s q⟩
    | _ => exact q.elim
  | _ => cases dy <;> exact q.elim

/-! ### == of data -/
mutual
def py : D → PyData
  | .non => .none
  | .bl b => .bool b
  | .int i => .int i
  | .str s => .str s
  | .lst xs => .list (pyL xs)
  | .tup xs => .tuple (pyL xs)
  | .exc _ _ => .dict []
  | .fn _ => .dict []
  | .dct _ => .dict []
  | .dtt _ => .dict []
  | .clk _ _ _ _ => .dict []
  | .scr ns => .list (ns.map PyData.int)
def pyL : List D → List PyData
  | [] => []
  | x :: xs => py x :: pyL xs
end
mutual
theorem py_eqv : ∀ a b : D, D.noScr a = true → D.noScr b = true → (∃ n, D.sh a n = true) → (∃ n, D.sh b n = true) → PyData.eqv (py a) (py b) = D.eqv a b
  | .non, b, _, _, _, hb => by cases b <;> simp_all [py, PyData.eqv, D.eqv, D.sh, D.noScr]
  | .bl x, b, _, _, _, hb => by cases b <;> simp_all [py, PyData.eqv, D.eqv, D.sh, D.noScr]
  | .int x, b, _, _, _, hb => by cases b <;> simp_all [py, PyData.eqv, D.eqv, D.sh, D.noScr]
  | .str x, b, _, _, _, hb => by cases b <;> simp_all [py, PyData.eqv, D.eqv, D.sh, D.noScr]
  | .lst xs, b, na, nb, ⟨n, ha⟩, ⟨k, hb⟩ => by
    cases b with
    | lst ys =>
      simp only [py, PyData.eqv, D.eqv]
      simp only [D.sh, Bool.and_eq_true] at ha hb
      exact pyL_eqv xs ys na nb ⟨_, ha.2⟩ ⟨_, hb.2⟩
    | _ => simp_all [py, PyData.eqv, D.eqv, D.sh, D.noScr]
  | .tup xs, b, na, nb, ⟨n, ha⟩, ⟨k, hb⟩ => by
    cases b with
    | tup ys =>
      simp only [py, PyData.eqv, D.eqv]
      simp only [D.sh, Bool.and_eq_true] at ha hb
      exact pyL_eqv xs ys na nb ⟨_, ha.2⟩ ⟨_, hb.2⟩
    | _ => simp_all [py, PyData.eqv, D.eqv, D.sh, D.noScr]
  | .exc _ _, _, _, _, ⟨_, ha⟩, _ => by simp [D.sh] at ha
  | .fn _, _, _, _, ⟨_, ha⟩, _ => by simp [D.sh] at ha
  | .dct _, _, _, _, ⟨_, ha⟩, _ => by simp [D.sh] at ha
  | .dtt _, _, _, _, ⟨_, ha⟩, _ => by simp [D.sh] at ha
  | .clk _ _ _ _, _, _, _, ⟨_, ha⟩, _ => by simp [D.sh] at ha
  | .scr _, _, na, _, _, _ => by simp [D.noScr] at na
theorem pyL_eqv : ∀ a b : List D, D.noScrL a = true → D.noScrL b = true → (∃ n, D.shL a n = true) → (∃ n, D.shL b n = true) → PyData.eqvAll (pyL a) (pyL b) = D.eqvL a b
  | [], [], _, _, _, _ => by simp [pyL, PyData.eqvAll, D.eqvL]
  | [], _ :: _, _, _, _, _ => by simp [pyL, PyData.eqvAll, D.eqvL]
  | _ :: _, [], _, _, _, _ => by simp [pyL, PyData.eqvAll, D.eqvL]
  | x :: xs, y :: ys, na, nb, ⟨n, ha⟩, ⟨k, hb⟩ => by
    simp only [D.shL, Bool.and_eq_true] at ha hb
    simp only [D.noScrL, Bool.and_eq_true] at na nb
    simp only [pyL, PyData.eqvAll, D.eqvL]
    rw [py_eqv x y na.1 nb.1 ⟨_, ha.1⟩ ⟨_, hb.1⟩, pyL_eqv xs ys na.2 nb.2 ⟨_, ha.2⟩ ⟨_, hb.2⟩]
end
theorem dpInts {F : Hp} : ∀ ns : List Int, DpAll K F (ns.map V.int) (ns.map PyData.int)
  | [] => .nil
  | n :: ns => .cons (.int n) (dpInts ns)
mutual
theorem rep_dp {F : Hp} : ∀ (d : D) (v : V) (n : Nat), D.sh d n = true → Rep K mg F d v → Dp K F v (py d)
  | .non, v, _, _, h => by simp only [Rep] at h; subst h; exact .non
  | .bl b, v, _, _, h => by simp only [Rep] at h; subst h; exact .bl b
  | .int i, v, _, _, h => by simp only [Rep] at h; subst h; exact .int i
  | .str s, v, _, _, h => by simp only [Rep] at h; subst h; exact .str s
  | .lst ds, v, n, z, h => by
    simp only [Rep] at h
    obtain ⟨a, vs, rfl, h1, h2, _⟩ := h
    simp only [D.sh, Bool.and_eq_true] at z
    exact .lst (SqL.of h1) (repL_dp ds vs _ z.2 h2)
  | .tup ds, v, n, z, h => by
    simp only [Rep] at h
    obtain ⟨a, vs, rfl, h1, h2, _⟩ := h
    simp only [D.sh, Bool.and_eq_true] at z
    exact .tup (SqT.of h1) (repL_dp ds vs _ z.2 h2)
  | .exc _ _, _, _, z, _ => by simp [D.sh] at z
  | .fn _, _, _, z, _ => by simp [D.sh] at z
  | .dct _, _, _, z, _ => by simp [D.sh] at z
  | .dtt _, _, _, z, _ => by simp [D.sh] at z
  | .clk _ _ _ _, _, _, z, _ => by simp [D.sh] at z
  | .scr ns, v, _, _, h => by
    simp only [Rep] at h
    obtain ⟨a, rfl, h1, _⟩ := h
    exact .lst h1 (dpInts ns)
theorem repL_dp {F : Hp} : ∀ (ds : List D) (vs : List V) (n : Nat), D.shL ds n = true → RepL K mg F ds vs → DpAll K F vs (pyL ds)
  | [], _, _, _, h => by simp only [RepL] at h; subst h; exact .nil
  | d :: ds, vs, n, z, h => by
    simp only [RepL] at h
    obtain ⟨v, vs', rfl, h1, h2⟩ := h
    simp only [D.shL, Bool.and_eq_true] at z
    exact .cons (rep_dp d v _ z.1 h1) (repL_dp ds vs' _ z.2 h2)
end
mutual
theorem Dp.mono {F F' : Hp} (e : Same F F') : ∀ (d : PyData) (v : V), Dp K F v d → Dp K F' v d
  | .none, _, h => by cases h; exact .non
  | .bool b, _, h => by cases h; exact .bl b
  | .int i, _, h => by cases h; exact .int i
  | .str s, _, h => by cases h; exact .str s
  | .list ds, _, h => by
    cases h with
    | lst h1 h2 => exact .lst (e.seq h1) (DpAll.mono e ds _ h2)
  | .tuple ds, _, h => by
    cases h with
    | tup h1 h2 => exact .tup (Same.seqT e h1) (DpAll.mono e ds _ h2)
  | .dict _, _, h => by cases h
theorem DpAll.mono {F F' : Hp} (e : Same F F') : ∀ (ds : List PyData) (vs : List V), DpAll K F vs ds → DpAll K F' vs ds
  | [], _, h => by cases h; exact .nil
  | d :: ds, _, h => by
    cases h with
    | cons h1 h2 => exact .cons (Dp.mono e d _ h1) (DpAll.mono e ds _ h2)
end
theorem look_dp {F H : Hp} {d : D} {v : V} {n : Nat} (s : Same F H) (z : D.sh d n = true) (h : Look K mg F H d v) : Dp K H v (py d) := by
  cases d with
  | lst ds =>
    obtain ⟨a, vs, rfl, h1, h2, _⟩ := h
    simp only [D.sh, Bool.and_eq_true] at z
    exact .lst (SqL.of h1) (DpAll.mono s _ _ (repL_dp ds vs _ z.2 h2))
  | dct _ => simp [D.sh] at z
  | _ => exact Dp.mono s _ _ (rep_dp (mg := mg) _ _ n z h)
theorem strOk_of {s : Str} (h : D.okStr s = true) : PyData.strOk s = true := by
  unfold PyData.strOk
  unfold D.okStr at h
  rw [Array.all_eq_true_iff_forall_mem]
  intro c hc
  have := List.all_eq_true.mp h c (by simpa using hc)
  simp only [Bool.and_eq_true, decide_eq_true_eq] at this
  exact decide_eq_true this.1
mutual
theorem sh_lay : ∀ (d : D) (n : Nat), D.sh d n = true → (py d).canLay0 = true ∧ (py d).depth ≤ n
  | .non, _, _ => by simp [py, PyData.canLay0, PyData.depth]
  | .bl _, _, _ => by simp [py, PyData.canLay0, PyData.depth]
  | .int _, _, _ => by simp [py, PyData.canLay0, PyData.depth]
  | .str s, _, h => by
    simp only [D.sh] at h
    simp [py, PyData.canLay0, PyData.depth, strOk_of h]
  | .lst ds, n, h => by
    simp only [D.sh, Bool.and_eq_true, decide_eq_true_eq] at h
    obtain ⟨h1, h2⟩ := shL_lay ds _ h.2
    simp only [py, PyData.canLay0, PyData.depth]
    exact ⟨h1, by omega⟩
  | .tup ds, n, h => by
    simp only [D.sh, Bool.and_eq_true, decide_eq_true_eq] at h
    obtain ⟨h1, h2⟩ := shL_lay ds _ h.2
    simp only [py, PyData.canLay0, PyData.depth]
    exact ⟨h1, by omega⟩
  | .exc _ _, _, h => by simp [D.sh] at h
  | .fn _, _, h => by simp [D.sh] at h
  | .dct _, _, h => by simp [D.sh] at h
  | .dtt _, _, h => by simp [D.sh] at h
  | .clk _ _ _ _, _, h => by simp [D.sh] at h
  | .scr ns, n, h => by
    simp only [D.sh, decide_eq_true_eq] at h
    have i : ∀ ns : List Int, PyData.canLayAll0 (ns.map PyData.int) = true ∧ PyData.depthAll (ns.map PyData.int) = 0 := fun ns => by
      induction ns with
      | nil => simp [PyData.canLayAll0, PyData.depthAll]
      | cons n ns ih => simp [PyData.canLayAll0, PyData.depthAll, PyData.canLay0, PyData.depth, ih.1, ih.2]
    simp only [py, PyData.canLay0, PyData.depth, (i ns).1, (i ns).2]
    exact ⟨trivial, by omega⟩
theorem shL_lay : ∀ (ds : List D) (n : Nat), D.shL ds n = true → PyData.canLayAll0 (pyL ds) = true ∧ PyData.depthAll (pyL ds) ≤ n
  | [], _, _ => by simp [pyL, PyData.canLayAll0, PyData.depthAll]
  | d :: ds, n, h => by
    simp only [D.shL, Bool.and_eq_true] at h
    obtain ⟨h1, h2⟩ := sh_lay d _ h.1
    obtain ⟨h3, h4⟩ := shL_lay ds _ h.2
    simp only [pyL, PyData.canLayAll0, PyData.depthAll, h1, h3, Bool.and_self, true_and]
    omega
end
theorem shaped_of {d : D} (h : D.shaped d = true) : SeqAt.shaped (py d) = true := by
  obtain ⟨h1, h2⟩ := sh_lay d 60 h
  unfold SeqAt.shaped
  rw [h1, Bool.true_and]
  exact decide_eq_true (by omega)
theorem okEq_eqv {a b : D} (ha : D.shaped a = true) (hb : D.shaped b = true) (h : D.okEq a b = true) : PyData.eqv (py a) (py b) = D.eqv a b := by
  have gen : D.noScr a = true → D.noScr b = true → PyData.eqv (py a) (py b) = D.eqv a b := fun na nb => py_eqv a b na nb ⟨_, ha⟩ ⟨_, hb⟩
  cases a with
  | scr ns =>
    cases b with
    | lst ys =>
      cases ys with
      | nil => cases ns <;> simp [py, pyL, PyData.eqv, PyData.eqvAll, D.eqv]
      | cons y ys => simp [D.okEq, D.noScr] at h
    | _ => simp [D.okEq, D.noScr] at h
  | _ =>
    simp only [D.okEq, Bool.and_eq_true] at h
    exact gen h.1 h.2
theorem ok_eq : Ok2 K mg (rEqD K) D.eq := by
  intro W σ F H dx dy x y Q s hx hy q
  simp only [D.eq] at q
  split at q
  · rename_i hz
    simp only [Bool.and_eq_true] at hz
    obtain ⟨⟨h1, h2⟩, h3⟩ := hz
    refine ⟨py dx, py dy, look_dp s h1 hx, look_dp s h2 hy, shaped_of h1, shaped_of h2, ?_⟩
    rw [okEq_eqv h1 h2 h3]
    exact gBl s q
  · exact q.elim
theorem ok_ne : Ok2 K mg (rNeD K) D.ne := by
  intro W σ F H dx dy x y Q s hx hy q
  simp only [D.ne] at q
  split at q
  · rename_i hz
    simp only [Bool.and_eq_true] at hz
    obtain ⟨⟨h1, h2⟩, h3⟩ := hz
    refine ⟨py dx, py dy, look_dp s h1 hx, look_dp s h2 hy, shaped_of h1, shaped_of h2, ?_⟩
    rw [okEq_eqv h1 h2 h3]
    exact gBl s q
  · exact q.elim

/-! ### items by place -/
theorem at_ok {ds : List D} {i : Int} {d : D} (h : D.at? ds i = .ok d) : atI ds i = some d := by
  unfold D.at? at h
  unfold atI ixN
  by_cases h0 : 0 ≤ i
  · rw [if_pos h0] at h ⊢
    cases e : ds[i.toNat]? with
    | none => rw [e] at h; cases h
    | some x =>
      rw [e] at h
      cases h
      have hl := (List.getElem?_eq_some_iff.mp e).1
      rw [if_pos (by omega)]
      exact e
  · rw [if_neg h0] at h ⊢
    by_cases h1 : 0 ≤ i + ds.length
    · rw [if_pos h1] at h
      rw [if_pos (by omega)]
      cases e : ds[(i + ds.length).toNat]? with
      | none => rw [e] at h; cases h
      | some x => rw [e] at h; cases h; exact e
    · rw [if_neg h1] at h; cases h
theorem at_cases (ds : List D) (i : Int) : (∃ d, D.at? ds i = .ok d) ∨ D.at? ds i = .stuck := by
  unfold D.at?
  split
  · split
    · exact .inl ⟨_, rfl⟩
    · exact .inr rfl
  · split
    · split
      · exact .inl ⟨_, rfl⟩
      · exact .inr rfl
    · exact .inr rfl
theorem RepL.atI {F : Hp} {ds : List D} {vs : List V} {i : Int} {d : D} (r : RepL K mg F ds vs) (h : L2.atI ds i = some d) : ∃ v, L2.atI vs i = some v ∧ Rep K mg F d v := by
  unfold L2.atI at h ⊢
  rw [r.len]
  cases e : ixN ds.length i with
  | none => rw [e] at h; cases h
  | some j => rw [e] at h; exact r.get h
theorem atI_map {α β : Type} (f : α → β) {xs : List α} {i : Int} {v : β} (h : L2.atI (xs.map f) i = some v) : ∃ u, L2.atI xs i = some u ∧ v = f u := by
  unfold L2.atI at h ⊢
  rw [List.length_map] at h
  cases e : ixN xs.length i with
  | none => rw [e] at h; cases h
  | some j =>
    rw [e] at h
    have h' : (xs.map f)[j]? = some v := h
    rw [List.getElem?_map] at h'
    cases q : xs[j]? with
    | none => rw [q] at h'; cases h'
    | some u => rw [q] at h'; cases h'; exact ⟨u, q, rfl⟩
theorem atI_map' {α β : Type} (f : α → β) {xs : List α} {i : Int} {u : α} (h : L2.atI xs i = some u) : L2.atI (xs.map f) i = some (f u) := by
  unfold L2.atI at h ⊢
  rw [List.length_map]
  cases e : ixN xs.length i with
  | none => rw [e] at h; cases h
  | some j =>
    rw [e] at h
    have h' : xs[j]? = some u := h
    show (xs.map f)[j]? = some (f u)
    rw [List.getElem?_map, h']; rfl
theorem Val.ofRep {F H : Hp} {d : D} {v : V} (h : Rep K mg F d v) : Val K mg .rep H F H d v := h
/-- an item is data, not a list of its own -/
def Ok2R (K : PySem.W.Frag) (mg : Str → Option Value) (r : R2) (op : D → D → R D) : Prop :=
  ∀ (W : WX) (σ : L2.St) (F H : Hp) (dx dy : D) (x y : V) (Q : VK), Same F H → Look K mg F H dx x → Look K mg F H dy y → Goal K mg .rep W σ F H (op dx dy) Q → r x y H Q
theorem ok_idx : Ok2R K mg (rIx K) D.idx := by
  intro W σ F H dx dy x y Q s hx hy q
  cases dy with
  | int i =>
    cases dx with
    | lst ds =>
      obtain ⟨a, vs, rfl, h1, h2, _⟩ := hx.lst
      rcases at_cases ds i with ⟨d, e⟩ | e
      · simp only [D.idx, e] at q
        obtain ⟨v, e2, r⟩ := h2.atI (at_ok e)
        exact .inl ⟨a, vs, i, v, rfl, Look.int hy, SqL.of h1, e2, q.done s r⟩
      · simp only [D.idx, e] at q
        exact q.elim
    | tup ds =>
      obtain ⟨a, vs, rfl, h1, h2, _⟩ := hx.tup s
      rcases at_cases ds i with ⟨d, e⟩ | e
      · simp only [D.idx, e] at q
        obtain ⟨v, e2, r⟩ := h2.atI (at_ok e)
        exact .inr (.inl ⟨a, vs, i, v, rfl, Look.int hy, SqT.of h1, e2, q.done s r⟩)
      · simp only [D.idx, e] at q
        exact q.elim
    | scr ns =>
      have hx' : Rep K mg F (.scr ns) x := hx
      simp only [Rep] at hx'
      obtain ⟨a, rfl, h1, h2⟩ := hx'
      rcases at_cases (ns.map D.int) i with ⟨d, e⟩ | e
      · simp only [D.idx, e] at q
        obtain ⟨n, e2, rfl⟩ := atI_map D.int (at_ok e)
        exact .inl ⟨a, _, i, .int n, rfl, Look.int hy, s.seq h1, atI_map' V.int e2, q.done s (show Rep K mg F (.int n) (.int n) by simp [Rep])⟩
      · simp only [D.idx, e] at q
        exact q.elim
    | _ => exact q.elim
  | _ => cases dx <;> exact q.elim
end
section
variable {X : Cx} {m : Md} {O : List Nat} {W : WX} {f g h : EF} {e a b c : Expr} {pos : Pos}
theorem pd_idx (ha : PD X .look O W f a) (hb : PD X .look O W g b) (hs : PlainIx b := by exact fun _ _ => rfl) : PD X .rep O W (e2 D.idx f g) (.Subscript a b pos) :=
  PE.imp (pe_ix ix_seq ha hb hs) fun σ H Q ⟨ρ, F, s, q⟩ => ⟨ρ, F, s, Goal.bind q fun dx x F1 H1 _ e1 l1 q1 => ⟨ρ, F1, s.ext e1, Goal.bind q1 fun dy y F2 H2 _ e2 l2 q2 => ok_idx W σ F2 H2 dx dy x y Q e2.fh (Look.ext l1 e2) l2 q2⟩⟩
/-- the room that == of data wants -/
theorem room_eq {k : Nat} {A : Around} (hr : Room k A) : A.units + 64 < cLine := hr.units

/-! ### built-ins by values -/
def OkC (K : PySem.W.Frag) (mg : Str → Option Value) (r : List V → Hp → VK → Prop) (F : List D → R D) : Prop :=
  ∀ (W : WX) (σ : L2.St) (F' H : Hp) (ds : List D) (vs : List V) (Q : VK), Same F' H → LookL K mg F' H ds vs → Goal K mg .fresh W σ F' H (F ds) Q → r vs H Q
theorem pd_callB {x : Str} {id : String} {r : List V → Hp → VK → Prop} {p : Pos} {es : List Expr} {ar : AF} {F : List D → R D} (hc : CallR X (.builtin id) r) (hs : OkC X.K X.mg r F) (hg : Gl X x) (hm : X.mg x = none) (hv : bootBuiltins x = some (.builtin id)) (ha : PAD X .look O W ar (e :: es)) (hn : x ≠ "__name__" := by decide) (hdb : (x == ("__debug__" : Str)) = false := by decide)
    (he : starEach (e :: es) X.env = (false, eval e X.env) :: starEach es X.env := by rfl) (hpl : (backTo pos (starEach es X.env)).any (·.1) = false := by rfl) : PD X .fresh O W (eF F ar) (.Call (.Name x p) (e :: es) [] pos) :=
  PE.imp (pe_callB hc hg hm hv ha hn hdb he hpl) fun σ H Q ⟨ρ, F', s, q⟩ => ⟨ρ, F', s, Goal.bindA q fun ds vs F1 H1 _ e1 l q => hs W σ F1 H1 ds vs Q e1.fh l q⟩
theorem pd_callT {x : Str} {T : String} {r : List V → Hp → VK → Prop} {p : Pos} {es : List Expr} {ar : AF} {F : List D → R D} (hc : CallR X (.type T) r) (hs : OkC X.K X.mg r F) (hg : Gl X x) (hm : X.mg x = none) (hv : bootBuiltins x = some (.type T)) (ha : PAD X .look O W ar (e :: es)) (hn : x ≠ "__name__" := by decide) (hdb : (x == ("__debug__" : Str)) = false := by decide)
    (he : starEach (e :: es) X.env = (false, eval e X.env) :: starEach es X.env := by rfl) (hpl : (backTo pos (starEach es X.env)).any (·.1) = false := by rfl) : PD X .fresh O W (eF F ar) (.Call (.Name x p) (e :: es) [] pos) :=
  PE.imp (pe_callTy hc hg hm hv ha hn hdb he hpl) fun σ H Q ⟨ρ, F', s, q⟩ => ⟨ρ, F', s, Goal.bindA q fun ds vs F1 H1 _ e1 l q => hs W σ F1 H1 ds vs Q e1.fh l q⟩
end
end RT

namespace RT
open PySem PySem.Spec PyProof.Rows L2
/-! ### what is walked -/
/-- the iterator gives the items of xs, while the frozen part F0 stands -/
def ItD (K : PySem.W.Frag) (mg : Str → Option Value) (J : It) (F0 : Hp) (xs : List D) : Prop :=
  xs.length ≤ sizeLine ∧ ∀ (i : Nat) (F H : Hp), Same F0 F → Same F H →
    (∀ d, xs[i]? = some d → J.go i H ∧ ∀ x H', J.yld i H x H' → ∃ F', Ext F H F' H' ∧ Rep K mg F' d x) ∧ (i = xs.length → J.stop i H)
def GoalI (K : PySem.W.Frag) (mg : Str → Option Value) (W : WX) (σ : L2.St) (F H : Hp) (r : R (List D)) (Q : It → Hp → Prop) : Prop :=
  match r with
  | .ok ds => ∀ J F' H', Ext F H F' H' → ItD K mg J F' ds → Q J H'
  | .err c => ∀ F' H', Ext F H F' H' → ∀ C, mg c = some (.ref C) → W (.ref C) none σ H'
  | .stuck => False
def iD (K : PySem.W.Frag) (mg : Str → Option Value) (O : List Nat) (W : WX) (f : AF) : TI := fun σ H Q => ∃ ρ F, SR K mg O ρ F σ H ∧ GoalI K mg W σ F H (f ρ) Q
abbrev PID (X : Cx) (O : List Nat) (W : WX) (tg : Expr) (f : AF) (e : Expr) : Prop := PI X tg e (iD X.K X.mg O W f)
theorem PI.imp {X : Cx} {tg e : Expr} {t t' : TI} (h : PI X tg e t) (i : ∀ σ H Q, t' σ H Q → t σ H Q) : PI X tg e t' := ⟨fun pins s σ H Q I q => h.run pins s σ H Q I (i σ H Q q)⟩
section
variable {K : PySem.W.Frag} {mg : Str → Option Value} {W : WX} {σ : L2.St} {F H F1 H1 : Hp}
theorem GoalI.ext {r : R (List D)} {Q : It → Hp → Prop} (h : GoalI K mg W σ F H r Q) (e : Ext F H F1 H1) : GoalI K mg W σ F1 H1 r Q := by
  cases r with
  | ok d => exact fun v F' H' e' q => h v F' H' (e.trans e') q
  | err c => exact fun F' H' e' => h F' H' (e.trans e')
  | stuck => exact h
theorem GoalI.bind {m1 : Md} {r : R D} {k : D → R (List D)} {Q : It → Hp → Prop} {Q1 : VK} (h : GoalI K mg W σ F H (r.bind k) Q)
    (c : ∀ d v F1 H1, r = .ok d → Ext F H F1 H1 → Val K mg m1 H F1 H1 d v → GoalI K mg W σ F1 H1 (k d) Q → Q1 v H1) : Goal K mg m1 W σ F H r Q1 := by
  cases r with
  | ok d => exact fun v F' H' e q => c d v F' H' rfl e q (GoalI.ext (r := k d) h e)
  | err c => exact h
  | stuck => exact h
theorem GoalI.bindA {m1 : Md} {r : R (List D)} {k : List D → R (List D)} {Q : It → Hp → Prop} {Q1 : List V → Hp → Prop} (h : GoalI K mg W σ F H (r.bind k) Q)
    (c : ∀ d v F1 H1, r = .ok d → Ext F H F1 H1 → ValL K mg m1 F1 H1 d v → GoalI K mg W σ F1 H1 (k d) Q → Q1 v H1) : GoalA K mg m1 W σ F H r Q1 := by
  cases r with
  | ok d => exact fun v F' H' e q => c d v F' H' rfl e q (GoalI.ext (r := k d) h e)
  | err c => exact h
  | stuck => exact h
/-- a walk of the hand layer that gives data -/
theorem ItD.list {a : Addr} {vs : List V} {ds : List D} (h : F a = some (.lst vs)) (r : RepL K mg F ds vs) (z : ds.length ≤ sizeLine) : ItD K mg (Itl K a) F ds := by
  refine ⟨z, fun i F1 H1 s1 s2 => ⟨fun d hd => ?_, fun e => ⟨vs, SqL.of (s2 _ _ (s1 _ _ h)), by rw [r.len, e]; exact Nat.le_refl _⟩⟩⟩
  have hq : SqL K H1 a vs := SqL.of (s2 _ _ (s1 _ _ h))
  obtain ⟨v, hv, rv⟩ := r.get hd
  refine ⟨⟨vs, v, hq, hv⟩, fun x H' y => ?_⟩
  obtain ⟨rfl, y⟩ := y
  have e := (y vs hq).symm.trans hv
  cases e
  exact ⟨F1, .refl s2, Rep.mono s1 _ _ rv⟩
theorem ItD.tup {a : Addr} {vs : List V} {ds : List D} (h : F a = some (.tup vs)) (r : RepL K mg F ds vs) (z : ds.length ≤ sizeLine) : ItD K mg (Itt K a) F ds := by
  refine ⟨z, fun i F1 H1 s1 s2 => ⟨fun d hd => ?_, fun e => ⟨vs, SqT.of (s2 _ _ (s1 _ _ h)), by rw [r.len, e]; exact Nat.le_refl _⟩⟩⟩
  have hq : SqT K H1 a vs := SqT.of (s2 _ _ (s1 _ _ h))
  obtain ⟨v, hv, rv⟩ := r.get hd
  refine ⟨⟨vs, v, hq, hv⟩, fun x H' y => ?_⟩
  obtain ⟨rfl, y⟩ := y
  have e := (y vs hq).symm.trans hv
  cases e
  exact ⟨F1, .refl s2, Rep.mono s1 _ _ rv⟩
theorem upto_len : ∀ (lo : Int) (n : Nat), (upto lo n).length = n
  | _, 0 => rfl
  | lo, n + 1 => by simp [upto, upto_len (lo + 1) n]
theorem upto_get : ∀ (lo : Int) (n i : Nat) (d : D), (upto lo n)[i]? = some d → i < n ∧ d = .int (lo + i)
  | _, 0, _, _, h => by simp [upto] at h
  | lo, n + 1, 0, d, h => by simp [upto] at h; subst h; exact ⟨by omega, by simp⟩
  | lo, n + 1, i + 1, d, h => by
    simp only [upto, List.getElem?_cons_succ] at h
    obtain ⟨h1, h2⟩ := upto_get (lo + 1) n i d h
    refine ⟨by omega, ?_⟩
    rw [h2]
    congr 1
    omega
theorem ItD.rng {lo : Int} {n : Nat} (z : n ≤ sizeLine) : ItD K mg (Itr lo n) F (upto lo n) := by
  refine ⟨by rw [upto_len]; exact z, fun i F1 H1 s1 s2 => ⟨fun d hd => ?_, fun e => ?_⟩⟩
  · obtain ⟨h1, rfl⟩ := upto_get lo n i d hd
    refine ⟨h1, fun x H' y => ?_⟩
    obtain ⟨rfl, rfl⟩ := y
    exact ⟨F1, .refl s2, by simp [Rep]⟩
  · rw [upto_len] at e
    show n ≤ i
    omega
/-- pairs: a new tuple each turn -/
theorem ItD.pair {J : It} {n : Nat} {G : Hp → Prop} {p q : Nat → Option V} {as bs : List D} (w : Walk J n G (YPair p q)) (hG : ∀ F1 H1, Same F F1 → Same F1 H1 → G H1) (ha : as.length = n) (hb : bs.length = n) (z : n ≤ sizeLine)
    (pa : ∀ i d v, as[i]? = some d → p i = some v → Rep K mg F d v) (pb : ∀ i d v, bs[i]? = some d → q i = some v → Rep K mg F d v) :
    ItD K mg J F ((as.zip bs).map fun x => .tup [x.1, x.2]) := by
  have hl : ((as.zip bs).map fun x => D.tup [x.1, x.2]).length = n := by rw [List.length_map, List.length_zip, ha, hb, Nat.min_self]
  refine ⟨by rw [hl]; exact z, fun i F1 H1 s1 s2 => ⟨fun d hd => ?_, fun e => ?_⟩⟩
  · have hi : i < n := by rw [← hl]; exact (List.getElem?_eq_some_iff.mp hd).1
    have g := hG F1 H1 s1 s2
    refine ⟨w.goes i H1 hi g, fun x H' y => ?_⟩
    obtain ⟨T, u, v, rfl, nT, rfl, e1, e2⟩ := w.yields i H1 x H' hi g y
    have ez : (as.zip bs)[i]? = some (as[i]'(by omega), bs[i]'(by omega)) := List.getElem?_zip_eq_some.mpr ⟨List.getElem?_eq_getElem (show i < as.length by omega), List.getElem?_eq_getElem (show i < bs.length by omega)⟩
    rw [List.getElem?_map, ez] at hd
    cases hd
    have ra := pa i _ u (List.getElem?_eq_getElem (show i < as.length by omega)) e1
    have rb := pb i _ v (List.getElem?_eq_getElem (show i < bs.length by omega)) e2
    refine ⟨upd F1 T (.tup [u, v]), Ext.new s2 nT, ?_⟩
    have m := s1.trans (same_upd (o := .tup [u, v]) (s2.free nT))
    simp only [Rep, RepL]
    exact ⟨T, [u, v], rfl, upd_same, ⟨u, [v], rfl, Rep.mono m _ _ ra, v, [], rfl, Rep.mono m _ _ rb, rfl⟩, by show 2 ≤ sizeLine; decide⟩
  · rw [hl] at e
    rw [e]
    exact w.stops H1 (hG F1 H1 s1 s2)
end
section
variable {X : Cx} {O : List Nat} {W : WX} {f g : EF} {e a b : Expr} {tg : Expr} {pos p : Pos} {ar : AF}
/-- a list or a tuple -/
theorem pid_seq (h : PD X .rep O W f e) : PID X O W tg (sItems f) e := by
  refine ⟨fun pins s σ H Q I hw => ?_⟩
  obtain ⟨ρ, F, sr, q⟩ := hw
  unfold sItems at q
  cases hf : f ρ with
  | ok d =>
    rw [hf] at q
    cases d with
    | lst ds =>
      refine (pi_list (tg := tg) (tl := fun σ H Q => ∃ ρ F, SR X.K X.mg O ρ F σ H ∧ Goal X.K X.mg .rep W σ F H (f ρ) Q) h).run pins s σ H Q I ⟨ρ, F, sr, ?_⟩
      rw [hf]
      intro v F' H' ex hv
      have hv' : Rep X.K X.mg F' (.lst ds) v := hv
      simp only [Rep] at hv'
      obtain ⟨a, vs, rfl, h1, h2, h3⟩ := hv'
      exact ⟨a, rfl, ⟨vs, SqL.of (ex.fh _ _ h1)⟩, q _ F' H' ex (ItD.list h1 h2 h3)⟩
    | tup ds =>
      refine (pi_tup (tg := tg) (tl := fun σ H Q => ∃ ρ F, SR X.K X.mg O ρ F σ H ∧ Goal X.K X.mg .rep W σ F H (f ρ) Q) h).run pins s σ H Q I ⟨ρ, F, sr, ?_⟩
      rw [hf]
      intro v F' H' ex hv
      have hv' : Rep X.K X.mg F' (.tup ds) v := hv
      simp only [Rep] at hv'
      obtain ⟨a, vs, rfl, h1, h2, h3⟩ := hv'
      exact ⟨a, rfl, ⟨vs, SqT.of (ex.fh _ _ h1)⟩, q _ F' H' ex (ItD.tup h1 h2 h3)⟩
    | _ => exact q.elim
  | err c =>
    rw [hf] at q
    refine (pi_list (tg := tg) (tl := fun σ H Q => ∃ ρ F, SR X.K X.mg O ρ F σ H ∧ Goal X.K X.mg .rep W σ F H (f ρ) Q) h).run pins s σ H Q I ⟨ρ, F, sr, ?_⟩
    rw [hf]
    exact q
  | stuck =>
    rw [hf] at q
    exact q.elim
theorem rng_ok {i j : Int} (q : ∃ xs, rng i j = .ok xs) : (-(2 ^ 62) ≤ i ∧ i < 2 ^ 62 ∧ -(2 ^ 62) ≤ j ∧ j < 2 ^ 62) ∧ (j - i).toNat ≤ sizeLine ∧ rng i j = .ok (upto i (j - i).toNat) := by
  obtain ⟨xs, q⟩ := q
  unfold rng at q ⊢
  split at q
  · rename_i hz
    simp only [Bool.and_eq_true, decide_eq_true_eq] at hz
    obtain ⟨⟨⟨⟨h1, h2⟩, h3⟩, h4⟩, h5⟩ := hz
    refine ⟨⟨h1, h2, h3, h4⟩, by rw [← lim_eq]; exact h5, ?_⟩
    rw [if_pos (by rw [decide_eq_true h1, decide_eq_true h2, decide_eq_true h3, decide_eq_true h4, decide_eq_true h5]; rfl)]
  · cases q
theorem rng_cases (i j : Int) : (∃ xs, rng i j = .ok xs) ∨ rng i j = .stuck := by
  unfold rng
  split
  · exact .inl ⟨_, rfl⟩
  · exact .inr rfl
theorem pid_r1 (hg : Gl X "range") (hm : X.mg "range" = none) (ha : PD X .look O W f a) (hs : starEach [a] X.env = [(false, eval a X.env)] := by rfl) :
    PID X O W tg (sA rngA (aC f aN)) (.Call (.Name "range" p) [a] [] pos) :=
  PI.imp (pi_range1 hg hm (pad_consL ha pad_nil hs) hs) fun σ H Q ⟨ρ, F, s, q⟩ => ⟨ρ, F, s, GoalI.bindA q fun ds vs F1 H1 ed e1 l q => by
    have l' : LookL X.K X.mg F1 H1 ds vs := l
    have : ∃ d, ds = [d] := by
      unfold aC aN at ed
      cases hf : f ρ with
      | ok d => rw [hf] at ed; cases ed; exact ⟨d, rfl⟩
      | err _ => rw [hf] at ed; cases ed
      | stuck => rw [hf] at ed; cases ed
    obtain ⟨d, rfl⟩ := this
    simp only [LookL] at l'
    obtain ⟨v, _, rfl, l1, rfl⟩ := l'
    cases d with
    | int j =>
      cases Look.int l1
      rcases rng_cases 0 j with h | h
      · obtain ⟨⟨_, _, h3, h4⟩, h5, h6⟩ := rng_ok h
        have q' : GoalI X.K X.mg W σ F1 H1 (rng 0 j) Q := q
        rw [h6] at q'
        refine ⟨j, rfl, h3, h4, ?_⟩
        have := q' (Itr 0 (j - 0).toNat) F1 H1 (.refl e1.fh) (ItD.rng h5)
        simpa using this
      · have q' : GoalI X.K X.mg W σ F1 H1 (rng 0 j) Q := q
        rw [h] at q'
        exact q'.elim
    | _ => exact q.elim⟩
theorem pid_r2 (hg : Gl X "range") (hm : X.mg "range" = none) (ha : PD X .look O W f a) (hb : PD X .look O W g b) (hs : starEach [a, b] X.env = [(false, eval a X.env), (false, eval b X.env)] := by rfl) (hs2 : starEach [b] X.env = [(false, eval b X.env)] := by rfl) :
    PID X O W tg (sA rngA (aC f (aC g aN))) (.Call (.Name "range" p) [a, b] [] pos) :=
  PI.imp (pi_range2 hg hm (pad_consL ha (pad_consL hb pad_nil hs2) (by rw [hs, hs2])) hs hs2) fun σ H Q ⟨ρ, F, s, q⟩ => ⟨ρ, F, s, GoalI.bindA q fun ds vs F1 H1 ed e1 l q => by
    have l' : LookL X.K X.mg F1 H1 ds vs := l
    have : ∃ d e, ds = [d, e] := by
      unfold aC aN at ed
      cases hf : f ρ with
      | ok d =>
        rw [hf] at ed
        simp only [R.bind_ok] at ed
        cases hg : g ρ with
        | ok e => rw [hg] at ed; cases ed; exact ⟨d, e, rfl⟩
        | err _ => rw [hg] at ed; cases ed
        | stuck => rw [hg] at ed; cases ed
      | err _ => rw [hf] at ed; cases ed
      | stuck => rw [hf] at ed; cases ed
    obtain ⟨d, d2, rfl⟩ := this
    simp only [LookL] at l'
    obtain ⟨v, _, rfl, l1, w, _, rfl, l2, rfl⟩ := l'
    cases d with
    | int i =>
      cases d2 with
      | int j =>
        cases Look.int l1
        cases Look.int l2
        have q' : GoalI X.K X.mg W σ F1 H1 (rng i j) Q := q
        rcases rng_cases i j with h | h
        · obtain ⟨h4, h5, h6⟩ := rng_ok h
          rw [h6] at q'
          exact ⟨i, j, rfl, h4, q' (Itr i (j - i).toNat) F1 H1 (.refl e1.fh) (ItD.rng h5)⟩
        · rw [h] at q'
          exact q'.elim
      | _ => exact q.elim
    | _ => cases d2 <;> exact q.elim⟩
end

/-! ### targets -/
/-- all slots but those of ts stay -/
def But (ts : List Nat) (σ σ' : L2.St) : Prop := σ'.length = σ.length ∧ ∀ j, j ∉ ts → σ'[j]? = σ[j]?
/-- the slots behind a store: the heap stays -/
def tGD (K : PySem.W.Frag) (mg : Str → Option Value) (O ts : List Nat) (g : GF) : TG := fun v σ H Q => ∃ ρ F d, SR K mg O ρ F σ H ∧ Rep K mg F d v ∧ match g d ρ with
  | some ρ' => ∀ σ', But ts σ σ' → SR K mg O ρ' F σ' H → Q σ' H
  | none => False
abbrev PGD (X : Cx) (O ts : List Nat) (g : GF) (e : Expr) : Prop := PG X e (tGD X.K X.mg O ts g)
def tGDs (K : PySem.W.Frag) (mg : Str → Option Value) (O ts : List Nat) (g : List D → Env → Option Env) : TGs := fun vs σ H Q => ∃ ρ F ds, SR K mg O ρ F σ H ∧ RepL K mg F ds vs ∧ match g ds ρ with
  | some ρ' => ∀ σ', But ts σ σ' → SR K mg O ρ' F σ' H → Q σ' H
  | none => False
abbrev PGDs (X : Cx) (O ts : List Nat) (g : List D → Env → Option Env) (es : List Expr) : Prop := PGs X es (tGDs X.K X.mg O ts g)
theorem PG.imp {X : Cx} {e : Expr} {t t' : TG} (h : PG X e t) (i : ∀ v σ H Q, t' v σ H Q → t v σ H Q) : PG X e t' := ⟨fun pins s σ H v u Q I r q => h.run pins s σ H v u Q I r (i v σ H Q q)⟩
theorem PGs.imp {X : Cx} {es : List Expr} {t t' : TGs} (h : PGs X es t) (i : ∀ v σ H Q, t' v σ H Q → t v σ H Q) : PGs X es t' := ⟨fun pins s σ H v u Q I r q => h.run pins s σ H v u Q I r (i v σ H Q q)⟩
section
variable {K : PySem.W.Frag} {mg : Str → Option Value} {O O' : List Nat} {ρ : Env} {F H : Hp} {σ : L2.St}
theorem get_set {α : Type} {xs : List α} {i j : Nat} {a b : α} (h : (xs.set i a)[j]? = some b) : (j = i ∧ a = b ∧ i < xs.length) ∨ (j ≠ i ∧ xs[j]? = some b) := by
  by_cases e : j = i
  · subst e
    by_cases l : j < xs.length
    · rw [List.getElem?_set_self l] at h
      exact .inl ⟨rfl, Option.some.inj h, l⟩
    · rw [List.getElem?_eq_none (by simpa using l)] at h
      cases h
  · rw [List.getElem?_set_ne (Ne.symm e)] at h
    exact .inr ⟨e, h⟩
/-- data is stored -/
theorem SR.set (s : SR K mg O ρ F σ H) {i : Nat} {d : D} {v : V} (hO : O.contains i = false) (r : Rep K mg F d v) : SR K mg O (ρ.set i (some d)) F (σ.set i (some v)) H := by
  have away : ∀ j, j ∈ O → j ≠ i := fun j n z => by
    subst z
    have := List.contains_iff_mem.mpr n
    rw [hO] at this
    cases this
  refine ⟨s.sub, fun j e h n => ?_, fun j e h n => ?_, fun j k d1 d2 a b x h1 h2 h3 h4 h5 h6 => ?_, by rw [List.length_set, List.length_set, s.len]⟩
  · rcases get_set h with ⟨rfl, e1, l⟩ | ⟨ne, h⟩
    · cases e1
      exact ⟨v, List.getElem?_set_self (by rw [s.len]; exact l), r⟩
    · obtain ⟨w, h1, h2⟩ := s.dat j e h n
      exact ⟨w, by rw [List.getElem?_set_ne (Ne.symm ne)]; exact h1, h2⟩
  · rw [List.getElem?_set_ne (Ne.symm (away j n))] at h ⊢
    exact s.own j e h n
  · rw [List.getElem?_set_ne (Ne.symm (away j h1))] at h3 h5
    rw [List.getElem?_set_ne (Ne.symm (away k h2))] at h4 h6
    exact s.inj j k d1 d2 a b x h1 h2 h3 h4 h5 h6
/-- a slot is forgotten -/
theorem SR.unset (s : SR K mg O ρ F σ H) (i : Nat) : SR K mg O (ρ.set i none) F (σ.set i none) H where
  sub := s.sub
  dat := fun j e h n => by
    rcases get_set h with ⟨rfl, e1, l⟩ | ⟨ne, h⟩
    · cases e1
    · obtain ⟨w, h1, h2⟩ := s.dat j e h n
      exact ⟨w, by rw [List.getElem?_set_ne (Ne.symm ne)]; exact h1, h2⟩
  own := fun j e h n => by
    rcases get_set h with ⟨rfl, e1, l⟩ | ⟨ne, h⟩
    · cases e1
    · rw [List.getElem?_set_ne (Ne.symm ne)]
      exact s.own j e h n
  inj := fun j k d1 d2 a b x h1 h2 h3 h4 h5 h6 => by
    rcases get_set h3 with ⟨rfl, e1, l⟩ | ⟨ne, h3⟩
    · cases e1
    · rcases get_set h4 with ⟨rfl, e1, l⟩ | ⟨ne', h4⟩
      · cases e1
      · rw [List.getElem?_set_ne (Ne.symm ne)] at h5
        rw [List.getElem?_set_ne (Ne.symm ne')] at h6
        exact s.inj j k d1 d2 a b x h1 h2 h3 h4 h5 h6
  len := by rw [List.length_set, List.length_set, s.len]
theorem SR.wipe (s : SR K mg O ρ F σ H) : ∀ vs : List Nat, SR K mg O (wipeE ρ vs) F (L2.wipe σ vs) H
  | [] => s
  | v :: vs => (SR.wipe s vs).unset v
end
section
variable {X : Cx} {O ts us : List Nat} {g : GF} {gs : List D → Env → Option Env} {e : Expr} {es : List Expr} {pos : Pos}
theorem pgd_name {i : Nat} {x : Str} (hO : O.contains i = false) (hN : X.N.Nodup) (hi : X.N[i]? = some x) (hx : Loc X.env.scope x) (hf : X.fn x = true ∨ X.env.scope.names.lookup x = some .local := by first | exact .inl rfl | exact .inr rfl | assumption) : PGD X O [i] (gN i) (.Name x pos) :=
  PG.imp (pg_name hN hi hx hf) fun v σ H Q ⟨ρ, F, d, s, r, q⟩ => q _ ⟨List.length_set, fun j hj => List.getElem?_set_ne fun e => hj (by simp [e])⟩ (s.set hO r)
theorem pgd_nil : PGDs X O [] gs0 [] := PGs.imp pgs_nil fun vs σ H Q ⟨ρ, F, ds, s, r, q⟩ => by
  cases ds with
  | nil => simp only [RepL] at r; exact ⟨r, q σ ⟨rfl, fun _ _ => rfl⟩ s⟩
  | cons _ _ => exact q.elim
theorem pgd_cons (h1 : PGD X O ts g e) (h2 : PGDs X O us gs es) (hs : (assignEach (e :: es) X.env).map (·.2) = assign e X.env :: (assignEach es X.env).map (·.2) := by rfl) : PGDs X O (ts ++ us) (gsC g gs) (e :: es) :=
  PGs.imp (pgs_cons h1 h2 hs) fun vs σ H Q ⟨ρ, F, ds, s, r, q⟩ => by
    cases ds with
    | nil => exact q.elim
    | cons d ds =>
      simp only [RepL] at r
      obtain ⟨v, vs', rfl, r1, r2⟩ := r
      refine ⟨v, vs', rfl, ρ, F, d, s, r1, ?_⟩
      simp only [gsC] at q
      cases hg : g d ρ with
      | none => rw [hg] at q; exact q.elim
      | some ρ' =>
        rw [hg] at q
        refine fun σ' b1 s' => ⟨ρ', F, ds, s', r2, ?_⟩
        have q' : match gs ds ρ' with | some ρ' => ∀ σ', But (ts ++ us) σ σ' → SR X.K X.mg O ρ' F σ' H → Q σ' H | none => False := q
        cases hgs : gs ds ρ' with
        | none => rw [hgs] at q'; exact q'.elim
        | some ρ2 =>
          rw [hgs] at q'
          exact fun σ2 b2 s2 => q' σ2 ⟨b2.1.trans b1.1, fun j hj => by
            rw [List.mem_append, not_or] at hj
            rw [b2.2 j hj.2, b1.2 j hj.1]⟩ s2
theorem pgd_tup {k n : Nat} (hc : X.calm = true) (h : PGDs X O ts gs es) (hl : ∀ ds ρ ρ', gs ds ρ = some ρ' → ds.length = n) (hn : (assignEach es X.env).length = n := by rfl) (hst : (assignEach es X.env).findIdx? (·.1) = none := by rfl) : PGD X O ts (gT gs) (.Tuple es k pos) :=
  PG.imp (pg_tup hc h hn hst) fun v σ H Q ⟨ρ, F, d, s, r, q⟩ => by
    cases d with
    | tup ds =>
      simp only [Rep] at r
      obtain ⟨a, vs, rfl, h1, h2, h3⟩ := r
      simp only [gT] at q
      cases hg : gs ds ρ with
      | none => rw [hg] at q; exact q.elim
      | some ρ' =>
        refine ⟨a, vs, rfl, SqT.of (s.sub _ _ h1), by rw [h2.len]; exact hl _ _ _ hg, ρ, F, ds, s, h2, ?_⟩
        rw [hg] at q ⊢
        exact q
    | _ => exact q.elim
theorem gs0_len : ∀ ds ρ ρ', gs0 ds ρ = some ρ' → ds.length = 0 := fun ds ρ ρ' h => by
  cases ds with
  | nil => rfl
  | cons _ _ => cases h
theorem gsC_len {n : Nat} {g : GF} {gs : List D → Env → Option Env} (h : ∀ ds ρ ρ', gs ds ρ = some ρ' → ds.length = n) : ∀ ds ρ ρ', gsC g gs ds ρ = some ρ' → ds.length = n + 1 := fun ds ρ ρ' q => by
  cases ds with
  | nil => cases q
  | cons d ds =>
    simp only [gsC] at q
    cases hg : g d ρ with
    | none => rw [hg] at q; cases q
    | some ρ1 =>
      rw [hg] at q
      rw [List.length_cons, h ds ρ1 ρ' q]
end
end RT

namespace RT
open PySem PySem.Spec PyProof.Rows L2
/-! ### comprehensions -/
abbrev WF : WX := fun _ _ _ _ => False
theorem wipe_key (σ : L2.St) : ∀ (us : List Nat) (j : Nat), (L2.wipe σ us)[j]? = if j ∈ us then (σ[j]?).map (fun _ => none) else σ[j]?
  | [], j => by simp [L2.wipe]
  | v :: us, j => by
    unfold L2.wipe
    by_cases e : v = j
    · subst e
      by_cases l : v < σ.length
      · rw [List.getElem?_set_self (by rw [L2.wipe_length]; exact l), if_pos List.mem_cons_self, List.getElem?_eq_getElem l]; rfl
      · rw [List.getElem?_eq_none (by rw [List.length_set, L2.wipe_length]; omega), if_pos List.mem_cons_self, List.getElem?_eq_none (by omega)]; rfl
    · rw [List.getElem?_set_ne e, wipe_key σ us j]
      by_cases m : j ∈ us
      · rw [if_pos m, if_pos (List.mem_cons_of_mem _ m)]
      · rw [if_neg m, if_neg (by simp only [List.mem_cons, not_or]; exact ⟨fun z => e z.symm, m⟩)]
theorem wipe_get {σ σ' : L2.St} {vs : List Nat} (b : But vs σ σ') : L2.wipe σ' vs = L2.wipe σ vs := by
  refine List.ext_getElem? fun j => ?_
  rw [wipe_key, wipe_key]
  by_cases m : j ∈ vs
  · rw [if_pos m, if_pos m]
    by_cases l : j < σ.length
    · rw [List.getElem?_eq_getElem l, List.getElem?_eq_getElem (show j < σ'.length by rw [b.1]; exact l)]; rfl
    · rw [List.getElem?_eq_none (show σ.length ≤ j by omega), List.getElem?_eq_none (show σ'.length ≤ j by rw [b.1]; omega)]
  · rw [if_neg m, if_neg m, b.2 j m]
theorem compL_err {g : GF} {t : TF} {e : EF} {ρ : Env} {c : Str} : ∀ xs : List D, compL g t e ρ xs ≠ .err c
  | [], h => by cases h
  | x :: xs, h => by
    unfold compL at h
    split at h
    · cases h
    · split at h
      · split at h
        · split at h
          · cases h
          · cases h
        · cases h
      · exact compL_err xs h
      · cases h
/-- a list of one's own is rewritten -/
theorem Ext.put {F H F' H' : Hp} {p : Addr} {o : HO} (e : Ext F H F' H') (h : H p = none) (hf : F' p = none) : Ext F H F' (upd H' p o) :=
  ⟨e.ff, fun b x q => by rw [upd_ne (ne_of_none q h)]; exact e.hh b x q, fun b x q => by rw [upd_ne (ne_of_none q hf)]; exact e.fh b x q, e.nw⟩
theorem lc_tail {K : PySem.W.Frag} {mg : Str → Option Value} {O ts vs : List Nat} {W : WX} {xs : List D} {g : GF} {t : TF} {e : EF} {ρ : Env} {F F1 H1 : Hp} {σ : L2.St} {H : Hp} {Q : VK} {J : It} {p0 : Addr} (hts : ∀ j, j ∈ ts → j ∈ vs) (s : SR K mg O ρ F σ H) (e1 : Ext F H F1 H1) (it : ItD K mg J F1 xs) (hD : H1 p0 = none)
    (q : Goal K mg .fresh W σ F H ((compL g t e (wipeE ρ vs) xs).bind fun ys => .ok (.lst ys)) Q) :
    ∃ W : Nat → Nat → Hp → Prop, (∃ m, W 0 m (upd H1 p0 (.lst []))) ∧ ∀ i m H, W i m H →
      (J.stop i H ∧ Q (.ref p0) H) ∨ (J.go i H ∧ ∃ Nx : Hp → Prop, (∀ H', Nx H' → ∃ m', m' < m ∧ W (i + 1) m' H') ∧ ∀ x H', J.yld i H x H' → tGD K mg O ts g x (L2.wipe σ vs) H' fun σ2 H2 => L2.wipe σ2 vs = L2.wipe σ vs ∧ tT K mg O WF t σ2 H2 fun b H3 =>
        if b = true then tD K mg .rep O WF e σ2 H3 fun y H4 => ∃ acc, H4 p0 = some (.lst acc) ∧ acc.length < sizeLine ∧ Nx (upd H4 p0 (.lst (acc ++ [y]))) else Nx H3) := by
  cases hc : compL g t e (wipeE ρ vs) xs with
  | err c => exact absurd hc (compL_err xs)
  | stuck => rw [hc] at q; exact q.elim
  | ok ys =>
    rw [hc] at q
    simp only [R.bind_ok] at q
    have q1 := Goal.ext q e1
    have hFD : F1 p0 = none := e1.fh.free hD
    refine ⟨fun i m H' => i ≤ xs.length ∧ m = xs.length - i ∧ ∃ F' acc dacc rest, Ext F1 H1 F' H' ∧ H' p0 = some (.lst acc) ∧ F' p0 = none ∧ RepL K mg F' dacc acc ∧ dacc.length ≤ i ∧ compL g t e (wipeE ρ vs) (xs.drop i) = .ok rest ∧ ys = dacc ++ rest,
      ⟨xs.length, Nat.zero_le _, rfl, F1, [], [], ys, (Ext.refl e1.fh).put hD hFD, upd_same, hFD, by simp [RepL], Nat.le_refl _, by simpa using hc, rfl⟩, fun i m H' hW => ?_⟩
    obtain ⟨hi, rfl, F2, acc, dacc, rest, e2, hl, hf, rl, hn, hr, rfl⟩ := hW
    by_cases hlt : i < xs.length
    · refine .inr ?_
      have hx : xs[i]? = some xs[i] := List.getElem?_eq_getElem hlt
      obtain ⟨go, yl⟩ := (it.2 i F2 H' e2.ff e2.fh).1 _ hx
      refine ⟨go, fun H3 => ∃ m', m' < xs.length - i ∧ i + 1 ≤ xs.length ∧ m' = xs.length - (i + 1) ∧ ∃ F' acc dacc' rest', Ext F1 H1 F' H3 ∧ H3 p0 = some (.lst acc) ∧ F' p0 = none ∧ RepL K mg F' dacc' acc ∧ dacc'.length ≤ i + 1 ∧ compL g t e (wipeE ρ vs) (xs.drop (i + 1)) = .ok rest' ∧ dacc ++ rest = dacc' ++ rest',
        fun H3 h => ?_, fun x H3 hy => ?_⟩
      · obtain ⟨m', h1, h2, h3, h4⟩ := h
        exact ⟨m', h1, h2, h3, h4⟩
      · obtain ⟨F3, e3, rx⟩ := yl x H3 hy
        have ed : xs.drop i = xs[i] :: xs.drop (i + 1) := List.drop_eq_getElem_cons hlt
        rw [ed] at hr
        have s3 : SR K mg O (wipeE ρ vs) F3 (L2.wipe σ vs) H3 := (((s.ext e1).ext e2).ext e3).wipe vs
        refine ⟨wipeE ρ vs, F3, xs[i], s3, rx, ?_⟩
        unfold compL at hr
        cases hg : g xs[i] (wipeE ρ vs) with
        | none => rw [hg] at hr; cases hr
        | some ρ1 =>
          rw [hg] at hr
          simp only at hr
          intro σ' bt s4
          refine ⟨?_, ρ1, F3, s4, ?_⟩
          · have h1 : L2.wipe σ' vs = L2.wipe (L2.wipe σ vs) vs := wipe_get ⟨bt.1, fun j hj => bt.2 j fun hm => hj (hts j hm)⟩
            rw [h1]
            exact wipe_get ⟨L2.wipe_length σ vs, fun j hj => L2.wipe_out hj⟩
          · have hH3 : H3 p0 = some (.lst acc) := e3.hh _ _ hl
            have hF3 : F3 p0 = none := by rw [e3.nw p0 (by rw [hl]; simp)]; exact hf
            cases ht : t ρ1 with
            | err c => rw [ht] at hr; cases hr
            | stuck => rw [ht] at hr; cases hr
            | ok b =>
              rw [ht] at hr
              intro F5 H5 e5
              cases b with
              | true =>
                rw [if_pos rfl]
                simp only at hr
                refine ⟨ρ1, F5, s4.ext e5, ?_⟩
                cases he : e ρ1 with
                | err c => rw [he] at hr; cases hr
                | stuck => rw [he] at hr; cases hr
                | ok dy =>
                  rw [he] at hr
                  simp only at hr
                  intro y F6 H6 e6 ry
                  have ry' : Rep K mg F6 dy y := ry
                  have hl5 := e5.hh _ _ hH3
                  have hl6 := e6.hh _ _ hl5
                  have hf6 : F6 p0 = none := by
                    rw [e6.nw p0 (by rw [hl5]; simp), e5.nw p0 (by rw [hH3]; simp)]
                    exact hF3
                  have ex : Ext F1 H1 F6 H6 := ((e2.trans e3).trans e5).trans e6
                  refine ⟨acc, hl6, ?_, xs.length - (i + 1), by omega, hlt, rfl, F6, acc ++ [y], dacc ++ [dy], ?_⟩
                  · rw [rl.len]
                    have := it.1
                    omega
                  · cases hrr : compL g t e (wipeE ρ vs) (xs.drop (i + 1)) with
                    | err c => rw [hrr] at hr; cases hr
                    | stuck => rw [hrr] at hr; cases hr
                    | ok rest' =>
                      rw [hrr] at hr
                      have hr' : R.ok (dy :: rest') = R.ok rest := hr
                      cases hr'
                      refine ⟨rest', ex.put hD hf6, upd_same, hf6, (RepL.mono ((e3.ff.trans e5.ff).trans e6.ff) _ _ rl).append (RepL.one ry'), ?_, rfl, by simp⟩
                      rw [List.length_append, List.length_singleton]
                      omega
              | false =>
                rw [if_neg Bool.false_ne_true]
                simp only at hr
                have hl5 := e5.hh _ _ hH3
                refine ⟨xs.length - (i + 1), by omega, hlt, rfl, F5, acc, dacc, rest, (e2.trans e3).trans e5, hl5, ?_, RepL.mono (e3.ff.trans e5.ff) _ _ rl, by omega, hr, rfl⟩
                rw [e5.nw p0 (by rw [hH3]; simp)]
                exact hF3
    · have e : i = xs.length := by omega
      refine .inl ⟨(it.2 i F2 H' e2.ff e2.fh).2 e, ?_⟩
      rw [e, List.drop_length] at hr
      have hr' : (R.ok [] : R (List D)) = R.ok rest := hr
      cases hr'
      rw [List.append_nil] at q1
      refine q1 (.ref p0) F2 H' e2 (freshLst hl hf rl ?_ hD)
      have := it.1
      omega
theorem tLc_of {K : PySem.W.Frag} {mg : Str → Option Value} {O ts vs : List Nat} {W : WX} {src : AF} {g : GF} {t : TF} {e : EF} {σ : L2.St} {H : Hp} {Q : VK} (hts : ∀ j, j ∈ ts → j ∈ vs)
    (q : tD K mg .fresh O W (eComp src vs g t e) σ H Q) : tLc (iD K mg O W src) (tGD K mg O ts g) (tT K mg O WF t) (tD K mg .rep O WF e) vs σ H Q := by
  obtain ⟨ρ, F, s, q⟩ := q
  refine ⟨ρ, F, s, ?_⟩
  unfold eComp at q
  cases hs : src ρ with
  | err c => rw [hs] at q; exact q
  | stuck => rw [hs] at q; exact q.elim
  | ok xs =>
    rw [hs] at q
    simp only [R.bind_ok] at q
    exact fun J F1 H1 e1 it p0 hD => lc_tail hts s e1 it hD q
section
variable {X : Cx} {O ts : List Nat} {W : WX} {src : AF} {g : GF} {t : TF} {e : EF} {elt tg iter : Expr} {ifs : List Expr} {scope : Scope} {own : List (Str × Nat)} {pos spos : Pos}
abbrev PTsD (X : Cx) (O : List Nat) (W : WX) (t : TF) (ifs : List Expr) : Prop := PTs X ifs (tT X.K X.mg O W t)
theorem ptsd_nil : PTsD X O W tYesF [] := ⟨fun pins s σ H Q I ⟨ρ, F, sr, q⟩ => pts_nil.run pins s σ H Q I (q F H (.refl sr.sub))⟩
theorem ptsd_one {c : Expr} (h : PTD X O W t c) : PTsD X O W t [c] := pts_one h
theorem pd_lc (hc : X.calm = true) (hN : X.N.Nodup) (hi : PID X O W tg src iter) (ok : BlkOk X.N X.env.scope scope own)
    (hg : ∀ (s : Shared) (H : Hp) (C : Addr) (cl : List (Str × Addr)) (fp : List Addr), PGD (X.blk s H scope (compEnvC scope cl C X.env) fp) O ts g tg)
    (ht : ∀ (s : Shared) (H : Hp) (C : Addr) (cl : List (Str × Addr)) (fp : List Addr), PTsD (X.blk s H scope (compEnvC scope cl C X.env) fp) O WF t ifs)
    (he : ∀ (s : Shared) (H : Hp) (C : Addr) (cl : List (Str × Addr)) (fp : List Addr), PD (X.blk s H scope (compEnvC scope cl C X.env) fp) .rep O WF e elt)
    (hts : ∀ j, j ∈ ts → j ∈ own.map (·.2)) (hs : ∀ x, foldedSetIterable iter X.env x = pure x := by intro _; rfl) :
    PD X .fresh O W (eComp src (own.map (·.2)) g t e) (.ListComp elt [⟨tg, iter, ifs, 0⟩] scope pos) :=
  PE.imp (pe_lc hc hN hi ok hg ht he hs) fun σ H Q q => tLc_of hts q
end
end RT

namespace RT
open PySem PySem.Spec PyProof.Rows L2
/-! ### the slots within a def: B is the frozen part and the heap at its entry -/
structure SB (K : PySem.W.Frag) (mg : Str → Option Value) (B : Hp × Hp) (O : List Nat) (ρ : Env) (F : Hp) (σ : L2.St) (H : Hp) : Prop where
  sr : SR K mg O ρ F σ H
  ext : Ext B.1 B.2 F H
  nw : ∀ i d a, i ∈ O → ρ[i]? = some (some d) → σ[i]? = some (some (.ref a)) → ∀ x ∈ foot H a, B.2 x = none
def GoalS (K : PySem.W.Frag) (mg : Str → Option Value) (B : Hp × Hp) (O : List Nat) (W : WX) (o : Out) (E : Ends) : Prop :=
  match o with
  | .nx ρ => ∀ σ F H, SB K mg B O ρ F σ H → E.nx σ H
  | .rt d => ∀ v F H, Ext B.1 B.2 F H → Rep K mg F d v → E.rt v H
  | .er c ρ => ∀ O1 σ F H, SB K mg B O1 ρ F σ H → ∀ C, mg c = some (.ref C) → W (.ref C) none σ H
  | .stuck => False
def tSD (K : PySem.W.Frag) (mg : Str → Option Value) (B : Hp × Hp) (O O' : List Nat) (W : WX) (f : SF) : TS := fun E σ H => ∃ ρ F, SB K mg B O ρ F σ H ∧ GoalS K mg B O' W (f ρ) E
/-- a statement's sense; O, O': the slots that hold lists of one's own ahead of it and behind it -/
def PSD (X : Cx) (O O' : List Nat) (W : WX) (f : SF) (st : Stmt) : Prop := ∀ B, PS X st (tSD X.K X.mg B O O' W f)
def PSsD (X : Cx) (O O' : List Nat) (W : WX) (f : SF) (st : List Stmt) : Prop := ∀ B, PSs X st (tSD X.K X.mg B O O' W f)
/-- a target that touches the slots ts alone -/
def GOk (ts : List Nat) (g : GF) : Prop := ∀ d ρ ρ', g d ρ = some ρ' → ∀ j, j ∉ ts → ρ'[j]? = ρ[j]?
def GsOk (ts : List Nat) (g : List D → Env → Option Env) : Prop := ∀ d ρ ρ', g d ρ = some ρ' → ∀ j, j ∉ ts → ρ'[j]? = ρ[j]?
theorem gok_name {i : Nat} : GOk [i] (gN i) := fun d ρ ρ' h j hj => by
  cases h
  exact List.getElem?_set_ne fun e => hj (by simp [e])
theorem gok_nil : GsOk [] gs0 := fun d ρ ρ' h j hj => by
  cases d with
  | nil => cases h; rfl
  | cons _ _ => cases h
theorem gok_cons {ts us : List Nat} {g : GF} {gs : List D → Env → Option Env} (h1 : GOk ts g) (h2 : GsOk us gs) : GsOk (ts ++ us) (gsC g gs) := fun d ρ ρ' h j hj => by
  rw [List.mem_append, not_or] at hj
  cases d with
  | nil => cases h
  | cons d ds =>
    simp only [gsC] at h
    cases e : g d ρ with
    | none => rw [e] at h; cases h
    | some ρ1 =>
      rw [e] at h
      rw [h2 ds ρ1 ρ' h j hj.2, h1 d ρ ρ1 e j hj.1]
theorem gok_tup {ts : List Nat} {gs : List D → Env → Option Env} (h : GsOk ts gs) : GOk ts (gT gs) := fun d ρ ρ' e j hj => by
  cases d with
  | tup ds => exact h ds ρ ρ' e j hj
  | _ => cases e
section
variable {K : PySem.W.Frag} {mg : Str → Option Value} {B : Hp × Hp} {O O' O1 : List Nat} {W : WX} {ρ : Env} {F H F' H' : Hp} {σ : L2.St}
theorem SB.extend (s : SB K mg B O ρ F σ H) (e : Ext F H F' H') : SB K mg B O ρ F' σ H' := ⟨s.sr.ext e, s.ext.trans e, fun i d a h1 h2 h3 x hx => by
  rw [((s.sr.body h1 h2 h3).1.ext e).2] at hx
  exact s.nw i d a h1 h2 h3 x hx⟩
/-- no owned slot's object goes with o -/
def Away (O : List Nat) (ρ : Env) (σ : L2.St) (H : Hp) (o : Addr) : Prop := ∀ j e a, j ∈ O → ρ[j]? = some (some e) → σ[j]? = some (some (.ref a)) → o ∉ foot H a
theorem SB.away (s : SB K mg B O ρ F σ H) {o : Addr} (hn : H o = none) : Away O ρ σ H o := fun j e a hj hd ha q => by
  obtain ⟨u, hu⟩ := (s.sr.body hj hd ha).1.there o q
  rw [hn] at hu
  cases hu
theorem Away.ext {o : Addr} (w : Away O ρ σ H o) (s : SR K mg O ρ F σ H) (e : Ext F H F' H') : Away O ρ σ H' o := fun j d a hj hd ha q => by
  rw [((s.body hj hd ha).1.ext e).2] at q
  exact w j d a hj hd ha q
def isClk : D → Bool
  | .clk _ _ _ _ => true
  | _ => false
open Classical in
/-- what is one's own becomes data -/
theorem SB.frz (s : SB K mg B O ρ F σ H) (h : ∀ i, i ∈ O' → i ∈ O) : ∃ F', Same F F' ∧ SB K mg B O' ρ F' σ H := by
  let c : Addr → Prop := fun b => ∃ i d, i ∈ O ∧ i ∉ O' ∧ ρ[i]? = some (some d) ∧ σ[i]? = some (some (.ref b)) ∧ isClk d = false
  have own : ∀ i d b, i ∈ O → ρ[i]? = some (some d) → σ[i]? = some (some (.ref b)) → Body K mg F H d b ∧ ∀ x ∈ foot H b, F x = none := fun i d b h1 h2 h3 => s.sr.body h1 h2 h3
  let F' : Hp := fun b => if c b then H b else F b
  have ff : Same F F' := fun b x e => by
    show (if c b then H b else F b) = some x
    by_cases z : c b
    · obtain ⟨i, d, h1, _, h3, h4, _⟩ := z
      have q := (own i d b h1 h3 h4).2 b self_foot
      rw [q] at e; cases e
    · rw [if_neg z]; exact e
  have fh : Same F' H := fun b x e => by
    have e' : (if c b then H b else F b) = some x := e
    by_cases z : c b
    · rw [if_pos z] at e'; exact e'
    · rw [if_neg z] at e'; exact s.sr.sub b x e'
  have stay : ∀ {d b}, Body K mg F H d b → Body K mg F' H d b := fun q => (q.keep ff fun _ _ _ e => e).1
  refine ⟨F', ff, ⟨fh, fun i d hd hi => ?_, fun i d hd hi => ?_, fun i j d e a b x h1 h2 => s.sr.inj i j d e a b x (h i h1) (h j h2), s.sr.len⟩, ⟨s.ext.ff.trans ff, s.ext.hh, fh, fun b hb => ?_⟩, fun i d o hi => s.nw i d o (h i hi)⟩
  · by_cases ho : i ∈ O
    · obtain ⟨o, e2, e3, e4⟩ := s.sr.own i d hd ho
      refine ⟨_, e2, ?_⟩
      cases d with
      | lst ds =>
        obtain ⟨vs, q1, q2, q3⟩ := e3
        have z : c o := ⟨i, _, ho, hi, hd, e2, rfl⟩
        simp only [Rep]
        exact ⟨o, vs, rfl, by show (if c o then H o else F o) = _; rw [if_pos z]; exact q1, RepL.mono ff _ _ q2, q3⟩
      | dct ks =>
        have z : c o := ⟨i, _, ho, hi, hd, e2, rfl⟩
        simp only [Rep]
        exact ⟨o, rfl, by show (if c o then H o else F o) = _; rw [if_pos z]; exact e3.1⟩
      | clk _ _ _ _ => simp only [Rep]; exact ⟨o, rfl⟩
      | _ => exact e3.elim
    · obtain ⟨v, e1, e2⟩ := s.sr.dat i d hd ho
      exact ⟨v, e1, Rep.mono ff _ _ e2⟩
  · obtain ⟨o, e2, e3, e4⟩ := s.sr.own i d hd (h i hi)
    refine ⟨o, e2, stay e3, fun x hx => ?_⟩
    show (if c x then H x else F x) = none
    rw [if_neg]
    · exact e4 x hx
    · rintro ⟨j, d', h1, h2, h3, h4, _⟩
      have := s.sr.inj i j _ _ o x x (h i hi) h1 hd h3 e2 h4 hx self_foot
      subst this
      exact h2 hi
  · show (if c b then H b else F b) = B.1 b
    rw [if_neg]
    · exact s.ext.nw b hb
    · rintro ⟨j, d', h1, h2, h3, h4, _⟩
      exact hb (s.nw j d' b h1 h3 h4 b self_foot)
theorem not_in {i j : Nat} (hO : O.contains i = false) (hj : j ∈ O) : j ≠ i := fun z => by
  subst z
  have := List.contains_iff_mem.mpr hj
  rw [hO] at this
  cases this
theorem SB.store (s : SB K mg B O ρ F σ H) {i : Nat} {d : D} {v : V} (hO : O.contains i = false) (r : Rep K mg F d v) : SB K mg B O (ρ.set i (some d)) F (σ.set i (some v)) H :=
  ⟨s.sr.set hO r, s.ext, fun j e o hj h1 h2 => by
    have ne := not_in hO hj
    rw [List.getElem?_set_ne (Ne.symm ne)] at h1 h2
    exact s.nw j e o hj h1 h2⟩
/-- an object of one's own is stored -/
theorem SB.storeN (s : SB K mg B O ρ F σ H) {i : Nat} {d : D} {o : Addr} (hO : O.contains i = false) (hB : ∀ x ∈ foot H o, B.2 x = none) (other : ∀ x ∈ foot H o, Away O ρ σ H x) (b : Body K mg F H d o) (hf : ∀ x ∈ foot H o, F x = none) :
    SB K mg B (i :: O) (ρ.set i (some d)) F (σ.set i (some (.ref o))) H := by
  have at_i : ∀ {e : D}, (ρ.set i (some d))[i]? = some (some e) → (σ.set i (some (.ref o)))[i]? = some (some (.ref o)) := fun h3 =>
    List.getElem?_set_self (by rw [s.sr.len]; have := (List.getElem?_eq_some_iff.mp h3).1; rwa [List.length_set] at this)
  refine ⟨⟨s.sr.sub, fun j e h n => ?_, fun j e h n => ?_, fun j k d1 d2 a b x h1 h2 h3 h4 h5 h6 h7 h8 => ?_, by rw [List.length_set, List.length_set, s.sr.len]⟩, s.ext, fun j e b hj h1 h2 => ?_⟩
  · have ne : j ≠ i := fun z => n (by simp [z])
    rw [List.getElem?_set_ne (Ne.symm ne)] at h ⊢
    exact s.sr.dat j e h fun z => n (List.mem_cons_of_mem _ z)
  · rcases get_set h with ⟨rfl, e1, l⟩ | ⟨ne, h⟩
    · cases e1
      exact ⟨o, List.getElem?_set_self (by rw [s.sr.len]; exact l), b, hf⟩
    · rw [List.getElem?_set_ne (Ne.symm ne)]
      exact s.sr.own j e h ((List.mem_cons.mp n).resolve_left ne)
  · by_cases e1 : j = i
    · by_cases e2 : k = i
      · rw [e1, e2]
      · rw [List.getElem?_set_ne (Ne.symm e2)] at h4 h6
        subst e1
        rw [at_i h3] at h5
        cases h5
        exact absurd h8 (other x h7 k d2 b ((List.mem_cons.mp h2).resolve_left e2) h4 h6)
    · rw [List.getElem?_set_ne (Ne.symm e1)] at h3 h5
      by_cases e2 : k = i
      · subst e2
        rw [at_i h4] at h6
        cases h6
        exact absurd h7 (other x h8 j d1 a ((List.mem_cons.mp h1).resolve_left e1) h3 h5)
      · rw [List.getElem?_set_ne (Ne.symm e2)] at h4 h6
        exact s.sr.inj j k d1 d2 a b x ((List.mem_cons.mp h1).resolve_left e1) ((List.mem_cons.mp h2).resolve_left e2) h3 h4 h5 h6 h7 h8
  · rcases get_set h1 with ⟨rfl, e1, l⟩ | ⟨ne, h1⟩
    · rw [List.getElem?_set_self (by rw [s.sr.len]; exact l)] at h2
      cases h2
      exact hB
    · rw [List.getElem?_set_ne (Ne.symm ne)] at h2
      exact s.nw j e b ((List.mem_cons.mp hj).resolve_left ne) h1 h2
/-- a new object of one's own -/
theorem SB.storeO (s : SB K mg B O ρ F σ H) {i : Nat} {d : D} {v : V} (hO : O.contains i = false) (e : Ext F H F' H') (f : FreshV K mg H F' H' d v) : SB K mg B (i :: O) (ρ.set i (some d)) F' (σ.set i (some v)) H' := by
  obtain ⟨⟨o, rfl, b, hf⟩, fr⟩ := f
  exact (s.extend e).storeN hO (fun x hx => s.ext.hh.free (fr o rfl x hx)) (fun x hx => (s.away (fr o rfl x hx)).ext s.sr e) b hf
/-- what is to be stored is there: data, or an object of one's own -/
def ValS (K : PySem.W.Frag) (mg : Str → Option Value) (B : Hp × Hp) (O : List Nat) (ρ : Env) (σ : L2.St) (b : Bool) (F H : Hp) (d : D) (v : V) : Prop :=
  match b with
  | false => Rep K mg F d v
  | true => match d with
    | .lst _ => Own K mg F H d v ∧ ∀ o, v = .ref o → ∀ x ∈ foot H o, B.2 x = none ∧ Away O ρ σ H x
    | .dct _ => Own K mg F H d v ∧ ∀ o, v = .ref o → ∀ x ∈ foot H o, B.2 x = none ∧ Away O ρ σ H x
    | .clk _ _ _ _ => Own K mg F H d v ∧ ∀ o, v = .ref o → ∀ x ∈ foot H o, B.2 x = none ∧ Away O ρ σ H x
    | _ => True
def mdS : Bool → Md
  | false => .rep
  | true => .fresh
def stoO (b : Bool) (i : Nat) (O : List Nat) : List Nat := match b with
  | false => O
  | true => i :: O
theorem ValS.of {b : Bool} {d : D} {v : V} (s : SB K mg B O ρ F σ H) (e : Ext F H F' H') (h : Val K mg (mdS b) H F' H' d v) : ValS K mg B O ρ σ b F' H' d v := by
  cases b with
  | false => exact h
  | true =>
    have go : FreshV K mg H F' H' d v → Own K mg F' H' d v ∧ ∀ o, v = .ref o → ∀ x ∈ foot H' o, B.2 x = none ∧ Away O ρ σ H' x := fun f =>
      ⟨f.1, fun o ho x hx => ⟨s.ext.hh.free (f.2 o ho x hx), (s.away (f.2 o ho x hx)).ext s.sr e⟩⟩
    cases d with
    | lst ds => exact go h
    | dct ks => exact go h
    | clk _ _ _ _ => exact go h
    | _ => trivial
theorem Val.news {b : Bool} {i : Nat} {d : D} {v : V} {ρ ρ' : Env} (h : Val K mg (mdS b) H F' H' d v) (q : RT.sto b i d ρ = some ρ') (hb : b = true) : FreshV K mg H F' H' d v := by
  subst hb
  cases d with
  | lst ds => exact h
  | dct ks => exact h
  | clk _ _ _ _ => exact h
  | _ => cases q
theorem ValS.ext {b : Bool} {d : D} {v : V} {F2 H2 : Hp} (h : ValS K mg B O ρ σ b F' H' d v) (s : SR K mg O ρ F' σ H') (e : Ext F' H' F2 H2) : ValS K mg B O ρ σ b F2 H2 d v := by
  cases b with
  | false => exact Rep.mono e.ff _ _ h
  | true =>
    have go : (Own K mg F' H' d v ∧ ∀ o, v = .ref o → ∀ x ∈ foot H' o, B.2 x = none ∧ Away O ρ σ H' x) → Own K mg F2 H2 d v ∧ ∀ o, v = .ref o → ∀ x ∈ foot H2 o, B.2 x = none ∧ Away O ρ σ H2 x := fun f =>
      ⟨f.1.ext e, fun o ho x hx => by
        obtain ⟨⟨a, h1, h2, h3⟩, h4⟩ := f
        subst ho
        cases h1
        rw [(h2.ext e).2] at hx
        exact ⟨(h4 _ rfl x hx).1, (h4 _ rfl x hx).2.ext s e⟩⟩
    cases d with
    | lst ds => exact go h
    | dct ks => exact go h
    | clk _ _ _ _ => exact go h
    | _ => trivial
/-- a store of either kind -/
theorem SB.sto (s : SB K mg B O ρ F σ H) {b : Bool} {i : Nat} {d : D} {v : V} {ρ' : Env} (hO : O.contains i = false) (h : ValS K mg B O ρ σ b F H d v) (e : RT.sto b i d ρ = some ρ') : SB K mg B (stoO b i O) ρ' F (σ.set i (some v)) H := by
  cases b with
  | false => cases e; exact s.store hO h
  | true =>
    have go : (Own K mg F H d v ∧ ∀ o, v = .ref o → ∀ x ∈ foot H o, B.2 x = none ∧ Away O ρ σ H x) → SB K mg B (i :: O) (ρ.set i (some d)) F (σ.set i (some v)) H := fun f => by
      obtain ⟨⟨o, rfl, b, hf⟩, h5⟩ := f
      exact s.storeN hO (fun x hx => (h5 o rfl x hx).1) (fun x hx => (h5 o rfl x hx).2) b hf
    cases d with
    | lst ds => cases e; exact go h
    | dct ks => cases e; exact go h
    | clk _ _ _ _ => cases e; exact go h
    | _ => cases e
/-- a further value's place is another -/
theorem ValS.next {b c : Bool} {i : Nat} {d e : D} {v w : V} {ρ' : Env} {F1 H1 F2 H2 : Hp} (hO : O.contains i = false) (h : ValS K mg B O ρ σ b F2 H2 d v) (q : RT.sto b i d ρ = some ρ') (h1 : ValS K mg B O ρ σ b F1 H1 d v) (e12 : Ext F1 H1 F2 H2)
    (g : ValS K mg B O ρ σ c F2 H2 e w) (n : c = true → ∀ o, w = .ref o → ∀ x ∈ foot H2 o, H1 x = none) (hi : σ.length = ρ.length) : ValS K mg B (stoO b i O) ρ' (σ.set i (some v)) c F2 H2 e w := by
  cases c with
  | false => exact g
  | true =>
    have go : (Own K mg F2 H2 e w ∧ ∀ o, w = .ref o → ∀ x ∈ foot H2 o, B.2 x = none ∧ Away O ρ σ H2 x) → Own K mg F2 H2 e w ∧ ∀ o, w = .ref o → ∀ x ∈ foot H2 o, B.2 x = none ∧ Away (stoO b i O) ρ' (σ.set i (some v)) H2 x := fun g =>
      ⟨g.1, fun o eo x hx => ⟨(g.2 o eo x hx).1, fun j dj a hj hd ha => by
        have g2 := (g.2 o eo x hx).2
        cases b with
        | false =>
          cases q
          have hj' : j ∈ O := hj
          have ne := not_in hO hj'
          rw [List.getElem?_set_ne (Ne.symm ne)] at hd ha
          exact g2 j dj a hj' hd ha
        | true =>
          have go2 : ρ' = ρ.set i (some d) → Own K mg F1 H1 d v → x ∉ foot H2 a := fun er ow => by
            subst er
            by_cases ne : j = i
            · subst ne
              rw [List.getElem?_set_self (by rw [hi]; have := (List.getElem?_eq_some_iff.mp hd).1; rwa [List.length_set] at this)] at ha
              obtain ⟨o1, ev, bo, _⟩ := ow
              rw [ev] at ha
              cases ha
              intro hxa
              rw [(bo.ext e12).2] at hxa
              obtain ⟨u, hu⟩ := bo.there x hxa
              rw [n rfl o eo x hx] at hu
              cases hu
            · have hj' : j ∈ O := (List.mem_cons.mp hj).resolve_left ne
              rw [List.getElem?_set_ne (Ne.symm ne)] at hd ha
              exact g2 j dj a hj' hd ha
          cases d with
          | lst ds => exact go2 (by cases q; rfl) h1.1
          | dct ks => exact go2 (by cases q; rfl) h1.1
          | clk _ _ _ _ => exact go2 (by cases q; rfl) h1.1
          | _ => cases q⟩⟩
    cases e with
    | lst es => exact go g
    | dct ks => exact go g
    | clk _ _ _ _ => exact go g
    | _ => trivial
/-- an object of one's own changes -/
theorem SB.change (s : SB K mg B O ρ F σ H) {i : Nat} {d0 d : D} {o : Addr} (hi : i ∈ O) (hd : ρ[i]? = some (some d0)) (ho : σ[i]? = some (some (.ref o))) (keep : ∀ x y, x ∉ foot H o → H x = some y → H' x = some y) (b : Body K mg F H' d o) (ft : ∀ x ∈ foot H' o, x ∈ foot H o ∨ H x = none) :
    SB K mg B O (ρ.set i (some d)) F σ H' := by
  obtain ⟨bo, fo⟩ := s.sr.body hi hd ho
  have hB := s.nw i _ o hi hd ho
  have hil : i < ρ.length := (List.getElem?_eq_some_iff.mp hd).1
  have stay : ∀ j e a, j ∈ O → j ≠ i → ρ[j]? = some (some e) → σ[j]? = some (some (.ref a)) → Body K mg F H' e a ∧ foot H' a = foot H a ∧ ∀ x ∈ foot H a, x ∉ foot H o := fun j e a hj ne he ha => by
    have ap : ∀ x ∈ foot H a, x ∉ foot H o := fun x hx q => ne (s.sr.inj j i e d0 a o x hj hi he hd ha ho hx q)
    obtain ⟨b1, b2⟩ := (s.sr.body hj he ha).1.keep (.refl F) fun x hx u hu => keep x u (ap x hx) hu
    exact ⟨b1, b2, ap⟩
  refine ⟨⟨fun x y e => keep x y (fun q => by rw [fo x q] at e; cases e) (s.sr.sub x y e), fun j e h n => ?_, fun j e h n => ?_, fun j k d1 d2 a b x h1 h2 h3 h4 h5 h6 h7 h8 => ?_, by rw [List.length_set, s.sr.len]⟩,
    ⟨s.ext.ff, fun x y e => keep x y (fun q => by rw [hB x q] at e; cases e) (s.ext.hh x y e), fun x y e => keep x y (fun q => by rw [fo x q] at e; cases e) (s.sr.sub x y e), s.ext.nw⟩, fun j e a hj h1 h2 x hx => ?_⟩
  · have ne : j ≠ i := fun z => n (z ▸ hi)
    rw [List.getElem?_set_ne (Ne.symm ne)] at h
    exact s.sr.dat j e h n
  · rcases get_set h with ⟨rfl, e1, l⟩ | ⟨ne, h⟩
    · cases e1
      exact ⟨o, ho, b, fun x hx => (ft x hx).elim (fo x) fun q => s.sr.sub.free q⟩
    · obtain ⟨a, ha, _⟩ := s.sr.own j e h n
      obtain ⟨b1, b2, b3⟩ := stay j e a n ne h ha
      exact ⟨a, ha, b1, fun x hx => by rw [b2] at hx; exact (s.sr.body n h ha).2 x hx⟩
  · have old : ∀ j d1 a x, j ∈ O → (ρ.set i (some d))[j]? = some (some d1) → σ[j]? = some (some (.ref a)) → x ∈ foot H' a → (j = i ∧ (x ∈ foot H o ∨ H x = none)) ∨ (j ≠ i ∧ ρ[j]? = some (some d1) ∧ x ∈ foot H a ∧ x ∉ foot H o ∧ ∃ u, H x = some u) := fun j d1 a x h1 h3 h5 h7 => by
      rcases get_set h3 with ⟨rfl, _, _⟩ | ⟨ne, h3⟩
      · rw [ho] at h5
        cases h5
        exact .inl ⟨rfl, ft x h7⟩
      · obtain ⟨b1, b2, b3⟩ := stay j d1 a h1 ne h3 h5
        rw [b2] at h7
        exact .inr ⟨ne, h3, h7, b3 x h7, (s.sr.body h1 h3 h5).1.there x h7⟩
    rcases old j d1 a x h1 h3 h5 h7 with ⟨rfl, q1⟩ | ⟨n1, g1, g2, g3, u, g4⟩
    · rcases old k d2 b x h2 h4 h6 h8 with ⟨rfl, _⟩ | ⟨n2, k1, k2, k3, u, k4⟩
      · rfl
      · rcases q1 with q | q
        · exact absurd q k3
        · rw [q] at k4; cases k4
    · rcases old k d2 b x h2 h4 h6 h8 with ⟨rfl, q1⟩ | ⟨n2, k1, k2, k3, _, _⟩
      · rcases q1 with q | q
        · exact absurd q g3
        · rw [q] at g4; cases g4
      · exact s.sr.inj j k d1 d2 a b x h1 h2 g1 k1 h5 h6 g2 k2
  · rcases get_set h1 with ⟨rfl, _, _⟩ | ⟨ne, h1⟩
    · rw [ho] at h2
      cases h2
      rcases ft x hx with q | q
      · exact hB x q
      · exact s.ext.hh.free q
    · obtain ⟨b1, b2, _⟩ := stay j e a hj ne h1 h2
      rw [b2] at hx
      exact s.nw j e a hj h1 h2 x hx
/-- a list of one's own is rewritten -/
theorem SB.mut (s : SB K mg B O ρ F σ H) {i : Nat} {d0 : List D} {ds : List D} {vs : List V} {o : Addr} (hi : i ∈ O) (hd : ρ[i]? = some (some (.lst d0))) (ho : σ[i]? = some (some (.ref o))) (r : RepL K mg F ds vs) (z : ds.length ≤ sizeLine) :
    SB K mg B O (ρ.set i (some (.lst ds))) F σ (upd H o (.lst vs)) := by
  obtain ⟨⟨ws, e3, _⟩, _⟩ := s.sr.body hi hd ho
  refine s.change hi hd ho (fun x y hx e => ?_) ⟨vs, upd_same, r, z⟩ fun x hx => .inl ?_
  · rw [foot_lst e3, List.mem_singleton] at hx
    rw [upd_ne hx]; exact e
  · rw [foot_lst upd_same] at hx
    rw [foot_lst e3]; exact hx
theorem GoalS.weak {o : Out} {E : Ends} (h : GoalS K mg B O' W o E) (hs : ∀ i, i ∈ O' → i ∈ O1) : GoalS K mg B O1 W o E := by
  cases o with
  | nx ρ =>
    intro σ F H s
    obtain ⟨F', _, s'⟩ := s.frz hs
    exact h σ F' H s'
  | rt d => exact h
  | er c ρ => exact h
  | stuck => exact h
/-- a value's wish, within a statement -/
theorem GoalS.val {m : Md} {r : R D} {k : D → Out} {E : Ends} {Q : VK} (s : SB K mg B O ρ F σ H) (h : GoalS K mg B O' W (withR r ρ k) E)
    (c : ∀ d v F1 H1, r = .ok d → Ext F H F1 H1 → Val K mg m H F1 H1 d v → GoalS K mg B O' W (k d) E → Q v H1) : Goal K mg m W σ F H r Q := by
  cases r with
  | ok d => exact fun v F' H' e q => c d v F' H' rfl e q h
  | err c => exact fun F' H' e C hC => h O σ F' H' (s.extend e) C hC
  | stuck => exact h
theorem GoalS.tst {r : R Bool} {k : Bool → Out} {E : Ends} {Q : Bool → Hp → Prop} (s : SB K mg B O ρ F σ H) (h : GoalS K mg B O' W (withR r ρ k) E)
    (c : ∀ b F1 H1, r = .ok b → Ext F H F1 H1 → GoalS K mg B O' W (k b) E → Q b H1) : GoalT mg W σ F H r Q := by
  cases r with
  | ok d => exact fun F' H' e => c d F' H' rfl e h
  | err c => exact fun F' H' e C hC => h O σ F' H' (s.extend e) C hC
  | stuck => exact h
theorem GoalS.lst {m : Md} {r : R (List D)} {k : List D → Out} {E : Ends} {Q : List V → Hp → Prop} (s : SB K mg B O ρ F σ H) (h : GoalS K mg B O' W (withR r ρ k) E)
    (c : ∀ ds vs F1 H1, r = .ok ds → Ext F H F1 H1 → ValL K mg m F1 H1 ds vs → GoalS K mg B O' W (k ds) E → Q vs H1) : GoalA K mg m W σ F H r Q := by
  cases r with
  | ok d => exact fun v F' H' e q => c d v F' H' rfl e q h
  | err c => exact fun F' H' e C hC => h O σ F' H' (s.extend e) C hC
  | stuck => exact h
theorem GoalS.itr {r : R (List D)} {k : List D → Out} {E : Ends} {Q : It → Hp → Prop} (s : SB K mg B O ρ F σ H) (h : GoalS K mg B O' W (withR r ρ k) E)
    (c : ∀ ds J F1 H1, r = .ok ds → Ext F H F1 H1 → ItD K mg J F1 ds → GoalS K mg B O' W (k ds) E → Q J H1) : GoalI K mg W σ F H r Q := by
  cases r with
  | ok d => exact fun v F' H' e q => c d v F' H' rfl e q h
  | err c => exact fun F' H' e C hC => h O σ F' H' (s.extend e) C hC
  | stuck => exact h
end

section
variable {X : Cx} {O O' O1 O2 ts : List Nat} {W : WX} {f g : EF} {s u : SF} {t : TF} {src : AF} {gf : GF} {e tg iter c : Expr} {st : Stmt} {rest a b : List Stmt} {pos : Pos}
theorem psd_weak (h : PSD X O' O1 W s st) (h1 : ∀ i, i ∈ O' → i ∈ O := by decide) (h2 : ∀ i, i ∈ O2 → i ∈ O1 := by decide) : PSD X O O2 W s st := fun B => PS.imp (h B) fun E σ H ⟨ρ, F, sb, q⟩ => by
  obtain ⟨F', _, sb'⟩ := sb.frz h1
  exact ⟨ρ, F', sb', q.weak h2⟩
theorem pssd_weak (h : PSsD X O' O1 W s rest) (h1 : ∀ i, i ∈ O' → i ∈ O := by decide) (h2 : ∀ i, i ∈ O2 → i ∈ O1 := by decide) : PSsD X O O2 W s rest := fun B => PSs.imp (h B) fun E σ H ⟨ρ, F, sb, q⟩ => by
  obtain ⟨F', _, sb'⟩ := sb.frz h1
  exact ⟨ρ, F', sb', q.weak h2⟩
theorem pssd_nil : PSsD X O O W sNx [] := fun B => PSs.imp pss_nil fun E σ H ⟨ρ, F, sb, q⟩ => q σ F H sb
theorem GoalS.seq {K : PySem.W.Frag} {mg : Str → Option Value} {B : Hp × Hp} {o : Out} {E : Ends} (h : GoalS K mg B O' W (andThen o u) E) : GoalS K mg B O1 W o { E with nx := tSD K mg B O1 O' W u E } := by
  cases o with
  | nx ρ => exact fun σ F H sb => ⟨ρ, F, sb, h⟩
  | rt d => exact h
  | er c ρ => exact h
  | stuck => exact h
theorem pssd_cons (h1 : PSD X O O1 W s st) (h2 : PSsD X O1 O' W u rest) : PSsD X O O' W (sSeq s u) (st :: rest) := fun B => PSs.imp (pss_cons (h1 B) (h2 B)) fun E σ H ⟨ρ, F, sb, q⟩ => ⟨ρ, F, sb, GoalS.seq q⟩
theorem pssd_one (h1 : PSD X O O' W s st) : PSsD X O O' W s [st] := fun B => pss_one (h1 B)
theorem psd_pass : PSD X O O W sNx (.Pass pos) := fun B => PS.imp ps_pass fun E σ H ⟨ρ, F, sb, q⟩ => q σ F H sb
theorem psd_doc {x j pos'} : PSD X O O W sNx (.Expr (.Constant (.str x) j pos) pos') := fun B => PS.imp ps_doc fun E σ H ⟨ρ, F, sb, q⟩ => q σ F H sb
theorem psd_set {i : Nat} {x : Str} {pos' : Pos} (hO : O.contains i = false) (hN : X.N.Nodup) (hi : X.N[i]? = some x) (hx : Loc X.env.scope x) (he : PD X .rep O W f e) (hs : swapsWith e (some (.Name x pos')) pos.line X.env = pure false := by rfl) (hf : X.fn x = true ∨ X.env.scope.names.lookup x = some .local := by first | exact .inl rfl | exact .inr rfl | assumption) :
    PSD X O O W (sSet i f) (.Assign [.Name x pos'] e pos) := fun B => PS.imp (ps_set hN hi hx he hs hf) fun E σ H ⟨ρ, F, sb, q⟩ => ⟨ρ, F, sb.sr, GoalS.val sb q fun d v F1 H1 _ e1 r q => q _ F1 H1 ((sb.extend e1).store hO r)⟩
theorem psd_setO {i : Nat} {x : Str} {pos' : Pos} (hO : O.contains i = false) (hN : X.N.Nodup) (hi : X.N[i]? = some x) (hx : Loc X.env.scope x) (he : PD X .fresh O W f e) (hs : swapsWith e (some (.Name x pos')) pos.line X.env = pure false := by rfl) (hf : X.fn x = true ∨ X.env.scope.names.lookup x = some .local := by first | exact .inl rfl | exact .inr rfl | assumption) :
    PSD X O (i :: O) W (sSetO i f) (.Assign [.Name x pos'] e pos) := fun B => PS.imp (ps_set hN hi hx he hs hf) fun E σ H ⟨ρ, F, sb, q⟩ => ⟨ρ, F, sb.sr, GoalS.val sb q fun d v F1 H1 _ e1 r q => by
    cases d with
    | lst ds => exact q _ F1 H1 (sb.storeO hO e1 r)
    | dct ks => exact q _ F1 H1 (sb.storeO hO e1 r)
    | clk _ _ _ _ => exact q _ F1 H1 (sb.storeO hO e1 r)
    | _ => exact q.elim⟩
/-- y = [.. for ..] on one line -/
theorem psd_setLc {i : Nat} {y : Str} {py : Pos} {elt tg iter : Expr} {ifs : List Expr} {scope : Scope} {own : List (Str × Nat)} {spos : Pos} (hO : O.contains i = false) (hc : X.calm = true) (hN : X.N.Nodup) (hy : X.N[i]? = some y) (hyl : X.env.scope.names.lookup y = some .local)
    (hsw : swapsWith (.ListComp elt [⟨tg, iter, ifs, 0⟩] scope pos) (some (.Name y py)) spos.line X.env = pure true) (hi : PID X O W tg src iter) (ok : BlkOk X.N X.env.scope scope own)
    (hg : ∀ (s : Shared) (H : Hp) (C : Addr) (cl : List (Str × Addr)) (fp : List Addr), PGD (X.blk s H scope (compEnvC scope cl C X.env) fp) O ts gf tg)
    (ht : ∀ (s : Shared) (H : Hp) (C : Addr) (cl : List (Str × Addr)) (fp : List Addr), PTsD (X.blk s H scope (compEnvC scope cl C X.env) fp) O WF t ifs)
    (he : ∀ (s : Shared) (H : Hp) (C : Addr) (cl : List (Str × Addr)) (fp : List Addr), PD (X.blk s H scope (compEnvC scope cl C X.env) fp) .rep O WF f elt)
    (hts : ∀ j, j ∈ ts → j ∈ own.map (·.2)) (hs : ∀ x, foldedSetIterable iter X.env x = pure x := by intro _; rfl) :
    PSD X O O W (sSet i (eComp src (own.map (·.2)) gf t f)) (.Assign [.Name y py] (.ListComp elt [⟨tg, iter, ifs, 0⟩] scope pos) spos) := fun B =>
  PS.imp (ps_setLc hc hN hy hyl hsw hi ok hg ht he hs) fun E σ H ⟨ρ, F, sb, q⟩ => tLc_of hts ⟨ρ, F, sb.sr, Goal.frz (GoalS.val sb q fun d v F1 H1 _ e1 r q => q _ F1 H1 ((sb.extend e1).store hO r))⟩
theorem psd_setLcO {i : Nat} {y : Str} {py : Pos} {elt tg iter : Expr} {ifs : List Expr} {scope : Scope} {own : List (Str × Nat)} {spos : Pos} (hO : O.contains i = false) (hc : X.calm = true) (hN : X.N.Nodup) (hy : X.N[i]? = some y) (hyl : X.env.scope.names.lookup y = some .local)
    (hsw : swapsWith (.ListComp elt [⟨tg, iter, ifs, 0⟩] scope pos) (some (.Name y py)) spos.line X.env = pure true) (hi : PID X O W tg src iter) (ok : BlkOk X.N X.env.scope scope own)
    (hg : ∀ (s : Shared) (H : Hp) (C : Addr) (cl : List (Str × Addr)) (fp : List Addr), PGD (X.blk s H scope (compEnvC scope cl C X.env) fp) O ts gf tg)
    (ht : ∀ (s : Shared) (H : Hp) (C : Addr) (cl : List (Str × Addr)) (fp : List Addr), PTsD (X.blk s H scope (compEnvC scope cl C X.env) fp) O WF t ifs)
    (he : ∀ (s : Shared) (H : Hp) (C : Addr) (cl : List (Str × Addr)) (fp : List Addr), PD (X.blk s H scope (compEnvC scope cl C X.env) fp) .rep O WF f elt)
    (hts : ∀ j, j ∈ ts → j ∈ own.map (·.2)) (hs : ∀ x, foldedSetIterable iter X.env x = pure x := by intro _; rfl) :
    PSD X O (i :: O) W (sSetO i (eComp src (own.map (·.2)) gf t f)) (.Assign [.Name y py] (.ListComp elt [⟨tg, iter, ifs, 0⟩] scope pos) spos) := fun B =>
  PS.imp (ps_setLc hc hN hy hyl hsw hi ok hg ht he hs) fun E σ H ⟨ρ, F, sb, q⟩ => tLc_of hts ⟨ρ, F, sb.sr, GoalS.val sb q fun d v F1 H1 _ e1 r q => by
    cases d with
    | lst ds => exact q _ F1 H1 (sb.storeO hO e1 r)
    | dct ks => exact q _ F1 H1 (sb.storeO hO e1 r)
    | clk _ _ _ _ => exact q _ F1 H1 (sb.storeO hO e1 r)
    | _ => exact q.elim⟩
theorem psd_drop (he : PD X .look O W f e) (hs : swapsWith e none pos.line X.env = pure false := by rfl) : PSD X O O W (sDrop f) (.Expr e pos) := fun B =>
  PS.imp (ps_expr he hs) fun E σ H ⟨ρ, F, sb, q⟩ => ⟨ρ, F, sb.sr, GoalS.val sb q fun d v F1 H1 _ e1 r q => q σ F1 H1 (sb.extend e1)⟩
theorem psd_ret (he : PD X .rep O W f e) : PSD X O O' W (sRet f) (.Return (some e) pos) := fun B =>
  PS.imp (ps_ret he) fun E σ H ⟨ρ, F, sb, q⟩ => ⟨ρ, F, sb.sr, GoalS.val sb q fun d v F1 H1 _ e1 r q => q v F1 H1 (sb.extend e1).ext r⟩
theorem psd_if (hc : PTD X O W t c) (ha : PSsD X O O' W s a) (hb : PSsD X O O' W u b) : PSD X O O' W (sIf t s u) (.If c a b pos) := fun B =>
  PS.imp (ps_if hc (ha B) (hb B)) fun E σ H ⟨ρ, F, sb, q⟩ => ⟨ρ, F, sb.sr, GoalS.tst sb q fun b F1 H1 _ e1 q => by
    cases b with
    | true => exact ⟨ρ, F1, sb.extend e1, q⟩
    | false => exact ⟨ρ, F1, sb.extend e1, q⟩⟩
theorem psd_asg (he : PD X .rep O W f e) (hg : PGD X O ts gf tg) (hk : GOk ts gf) (ht : ∀ j, j ∈ ts → j ∉ O) (hs : swapsWithSole [tg] e pos.line X.env = pure false := by rfl) (hw : swappedStores [tg] e X.env = pure none := by rfl)
    (h1 : (assignEach [tg] X.env).map (·.2) = [assign tg X.env] := by rfl) : PSD X O O W (sAsg gf f) (.Assign [tg] e pos) := fun B =>
  PS.imp (ps_asg he hg hs hw h1) fun E σ H ⟨ρ, F, sb, q⟩ => ⟨ρ, F, sb.sr, GoalS.val sb q fun d v F1 H1 _ e1 r q => ⟨ρ, F1, d, (sb.extend e1).sr, r, by
    cases hgd : gf d ρ with
    | none => rw [hgd] at q; exact q.elim
    | some ρ' =>
      rw [hgd] at q
      exact fun σ' bt sr => q σ' F1 H1 ⟨sr, (sb.extend e1).ext, fun i d o hi h1 h2 => by
        have ni : i ∉ ts := fun z => ht i z hi
        rw [hk _ _ _ hgd i ni] at h1
        rw [bt.2 i ni] at h2
        exact (sb.extend e1).nw i d o hi h1 h2⟩⟩⟩
/-- a block's sense over any base -/
theorem pss_any {st : List Stmt} (h : PSsD X O O' W s st) : PSs X st (fun E σ H => ∃ B, tSD X.K X.mg B O O' W s E σ H) := ⟨fun pins st σ H E I ⟨B, q⟩ => (h B).run pins st σ H E I q⟩
/-- the base with a frozen part of now -/
def joinB (B : Hp × Hp) (F : Hp) : Hp × Hp := (F, fun b => match B.2 b with
  | some x => some x
  | none => F b)
theorem joinB_some {B : Hp × Hp} {F : Hp} {b : Addr} {x : HO} (h : B.2 b = some x) : (joinB B F).2 b = some x := by simp [joinB, h]
theorem joinB_none {B : Hp × Hp} {F : Hp} {b : Addr} (h : B.2 b = none) : (joinB B F).2 b = F b := by simp [joinB, h]
theorem joinB_in {B : Hp × Hp} {F1 H1 F H : Hp} (e1 : Ext B.1 B.2 F1 H1) (e : Ext B.1 B.2 F H) (s : Same F1 F) : Ext (joinB B F1).1 (joinB B F1).2 F H where
  ff := s
  hh := fun b x q => by
    cases z : B.2 b with
    | some y => rw [joinB_some z] at q; cases q; exact e.hh _ _ z
    | none => rw [joinB_none z] at q; exact e.fh _ _ (s _ _ q)
  fh := e.fh
  nw := fun b hb => by
    show F b = F1 b
    cases z : B.2 b with
    | some y => rw [e.nw b (by rw [z]; simp), e1.nw b (by rw [z]; simp)]
    | none =>
      rw [joinB_none z] at hb
      cases w : F1 b with
      | none => exact absurd w hb
      | some y => exact s _ _ w
theorem joinB_out {B : Hp × Hp} {F1 H1 F H : Hp} (e1 : Ext B.1 B.2 F1 H1) (e : Ext (joinB B F1).1 (joinB B F1).2 F H) : Ext B.1 B.2 F H ∧ Same F1 F :=
  ⟨⟨e1.ff.trans e.ff, fun b x q => e.hh b x (joinB_some q), e.fh, fun b hb => by
    have z : (joinB B F1).2 b ≠ none := by
      cases w : B.2 b with
      | none => exact absurd w hb
      | some y => rw [joinB_some w]; simp
    have := e.nw b z
    rw [this]
    exact e1.nw b hb⟩, e.ff⟩
theorem SB.join_out {K : PySem.W.Frag} {mg : Str → Option Value} {B : Hp × Hp} {F1 H1 F H : Hp} {ρ : Env} {σ : L2.St} (e1 : Ext B.1 B.2 F1 H1) (s : SB K mg (joinB B F1) O ρ F σ H) : SB K mg B O ρ F σ H :=
  ⟨s.sr, (joinB_out e1 s.ext).1, fun i d o h1 h2 h3 x hx => by
    have := s.nw i d o h1 h2 h3 x hx
    cases z : B.2 x with
    | none => rfl
    | some y => rw [joinB_some z] at this; cases this⟩
theorem SB.join_in {K : PySem.W.Frag} {mg : Str → Option Value} {B : Hp × Hp} {F1 H1 F H : Hp} {ρ : Env} {σ : L2.St} (e1 : Ext B.1 B.2 F1 H1) (s : SB K mg B O ρ F σ H) (f : Same F1 F) : SB K mg (joinB B F1) O ρ F σ H :=
  ⟨s.sr, joinB_in e1 s.ext f, fun i d o h1 h2 h3 x hx => by
    rw [joinB_none (s.nw i d o h1 h2 h3 x hx)]
    exact f.free ((s.sr.body h1 h2 h3).2 x hx)⟩
/-- for -/
theorem psd_for (hp : PassesOwn (model X.prog X.w) X.A X.env X.xe) (hc : X.calm = true) (hi : PID X O W tg src iter) (hg : PGD X O ts gf tg) (hk : GOk ts gf) (ht : ∀ j, j ∈ ts → j ∉ O) (hb : PSsD X O O W s a)
    (hs : ∀ x, foldedSetIterable iter X.env x = pure x := by intro _; rfl) : PSD X O O W (sFor src gf s) (.For tg iter a [] pos) := fun B =>
  PS.imp (ps_for hp hc hi hg (pss_any hb) hs) fun E σ H ⟨ρ, F, sb, q⟩ => ⟨ρ, F, sb.sr, GoalS.itr sb q fun xs J F1 H1 _ e1 it q => by
    refine ⟨fun i m σ H => i ≤ xs.length ∧ m = xs.length - i ∧ ∃ ρ F, SB X.K X.mg B O ρ F σ H ∧ Same F1 F ∧ GoalS X.K X.mg B O W (loopF gf s (xs.drop i) ρ) E,
      ⟨xs.length, Nat.zero_le _, rfl, ρ, F1, sb.extend e1, .refl _, by simpa using q⟩, fun i m σ H hW => ?_⟩
    obtain ⟨hi, rfl, ρ2, F2, sb2, f2, q2⟩ := hW
    by_cases hlt : i < xs.length
    · refine .inr ?_
      have hx : xs[i]? = some xs[i] := List.getElem?_eq_getElem hlt
      obtain ⟨go, yl⟩ := (it.2 i F2 H f2 sb2.sr.sub).1 _ hx
      have ed : xs.drop i = xs[i] :: xs.drop (i + 1) := List.drop_eq_getElem_cons hlt
      rw [ed] at q2
      refine ⟨go, fun σ' H' => ∃ m', m' < xs.length - i ∧ i + 1 ≤ xs.length ∧ m' = xs.length - (i + 1) ∧ ∃ ρ F, SB X.K X.mg B O ρ F σ' H' ∧ Same F1 F ∧ GoalS X.K X.mg B O W (loopF gf s (xs.drop (i + 1)) ρ) E, fun σ' H' h => ?_, fun x H3 hy => ?_⟩
      · obtain ⟨m', h1, h2, h3, h4⟩ := h
        exact ⟨m', h1, h2, h3, h4⟩
      · obtain ⟨F3, e3, rx⟩ := yl x H3 hy
        have sb3 := sb2.extend e3
        refine ⟨ρ2, F3, xs[i], sb3.sr, rx, ?_⟩
        unfold loopF at q2
        cases hgd : gf xs[i] ρ2 with
        | none => rw [hgd] at q2; exact q2.elim
        | some ρ' =>
          rw [hgd] at q2
          replace q2 : GoalS X.K X.mg B O W (andThen (s ρ') (loopF gf s (xs.drop (i + 1)))) E := q2
          intro σ' bt sr
          have sb4 : SB X.K X.mg B O ρ' F3 σ' H3 := ⟨sr, sb3.ext, fun i d o hi h1 h2 => by
            have ni : i ∉ ts := fun z => ht i z hi
            rw [hk _ _ _ hgd i ni] at h1
            rw [bt.2 i ni] at h2
            exact sb3.nw i d o hi h1 h2⟩
          have eB := (sb.extend e1).ext
          have sb5 := sb4.join_in eB (f2.trans e3.ff)
          refine ⟨joinB B F1, ρ', F3, sb5, ?_⟩
          cases hs' : s ρ' with
          | nx ρ5 =>
            rw [hs'] at q2
            intro σ6 F6 H6 sb6
            exact ⟨xs.length - (i + 1), by omega, hlt, rfl, ρ5, F6, sb6.join_out eB, (joinB_out eB sb6.ext).2, q2⟩
          | rt d =>
            rw [hs'] at q2
            exact fun v F6 H6 e6 r6 => q2 v F6 H6 (joinB_out eB e6).1 r6
          | er c ρ5 =>
            rw [hs'] at q2
            exact fun O1 σ6 F6 H6 sb6 C hC => q2 O1 σ6 F6 H6 (sb6.join_out eB) C hC
          | stuck => rw [hs'] at q2; exact q2.elim
    · have e : i = xs.length := by omega
      refine .inl ⟨(it.2 i F2 H f2 sb2.sr.sub).2 e, ?_⟩
      rw [e, List.drop_length] at q2
      exact q2 σ F2 H sb2⟩
/-- while -/
theorem psd_while (hp : PassesOwn (model X.prog X.w) X.A X.env X.xe) (hc : PTD X O W t c) (hb : PSsD X O O W s a) : PSD X O O W (sWhile t s) (.While c a [] pos) := fun B =>
  PS.imp (ps_while hp hc (hb B)) fun E σ H ⟨ρ, F, sb, q⟩ => by
    refine ⟨fun m σ H => ∃ ρ F, SB X.K X.mg B O ρ F σ H ∧ GoalS X.K X.mg B O W (loopW t s m ρ) E, ⟨fuel, ρ, F, sb, q⟩, fun m σ H hW => ?_⟩
    obtain ⟨ρ2, F2, sb2, q2⟩ := hW
    cases m with
    | zero => exact q2.elim
    | succ m =>
      refine ⟨ρ2, F2, sb2.sr, GoalS.tst sb2 q2 fun b F1 H1 _ e1 q3 => ?_⟩
      have sb3 := sb2.extend e1
      cases b with
      | false => exact q3 σ F1 H1 sb3
      | true =>
        rw [if_pos rfl]
        replace q3 : GoalS X.K X.mg B O W (andThen (s ρ2) (loopW t s m)) E := q3
        refine ⟨fun σ H => ∃ m', m' < m + 1 ∧ ∃ ρ F, SB X.K X.mg B O ρ F σ H ∧ GoalS X.K X.mg B O W (loopW t s m' ρ) E, fun _ _ h => h, ρ2, F1, sb3, ?_⟩
        cases hs : s ρ2 with
        | nx ρ5 =>
          rw [hs] at q3
          exact fun σ6 F6 H6 sb6 => ⟨m, Nat.lt_succ_self m, ρ5, F6, sb6, q3⟩
        | rt d => rw [hs] at q3; exact q3
        | er c ρ5 => rw [hs] at q3; exact q3
        | stuck => rw [hs] at q3; exact q3.elim
/-- x.append(e), x a list of one's own -/
theorem psd_app {i : Nat} {x : Str} {p1 p2 cpos pos : Pos} (hi : i ∈ O) (h1 : PE X (.Name x p1) (tVar i)) (he : PD X .rep O W f e)
    (hbase : attributeBase (.Name x p1) "append" X.env (eval (.Name x p1) X.env) = eval (.Name x p1) X.env := by rfl)
    (hfew : ((backTo cpos (starEach (e :: []) X.env)).all (fun x => !x.1) && (backToKw cpos (keywordEach [] X.env)).all (fun x => x.1.isSome) && decide ((e :: []).length + ([] : List Keyword).length + (if ([] : List Keyword).isEmpty then 0 else 1) < 30)) = true := by rfl)
    (hline : (p2.endLine == cpos.line) = true := by rfl) (hst : starEach (e :: []) X.env = (false, eval e X.env) :: starEach [] X.env := by rfl) (hplain : (backTo cpos (starEach [] X.env)).any (·.1) = false := by rfl)
    (hsw : swapsWith (.Call (.Attribute (.Name x p1) "append" p2) [e] [] cpos) none pos.line X.env = pure false := by rfl) :
    PSD X O O W (sApp i f) (.Expr (.Call (.Attribute (.Name x p1) "append" p2) [e] [] cpos) pos) := fun B =>
  PS.imp (ps_expr (pe_bm PySem.F.plainAttrs_list PySem.F.slot_list_append PySem.F.type_list_append mt_append h1 (pa_cons he pa_nil hst) hbase hfew hline hst hplain) hsw) fun E σ H ⟨ρ, F, sb, q⟩ => by
    unfold sApp at q
    split at q
    · rename_i xs hr
      obtain ⟨o, vs, h2, h3, h4, h5, h6⟩ := sb.sr.ownL hr hi
      refine ⟨_, h2, .inl ⟨rfl, vs, SqL.of h3⟩, ρ, F, sb.sr, GoalS.val sb q fun d v F1 H1 _ e1 r q => ?_⟩
      have r' : Rep X.K X.mg F1 d v := r
      split at q
      · rename_i hz
        rw [lim_eq] at hz
        have h3' := e1.hh _ _ h3
        refine ⟨o, vs, v, rfl, rfl, h3', by rw [h5.len]; exact hz, ?_⟩
        exact q σ F1 _ ((sb.extend e1).mut hi hr h2 ((RepL.mono e1.ff _ _ h5).append (RepL.one r')) (by rw [List.length_append]; exact hz))
      · exact q.elim
    · exact q.elim
/-- x.extend(e), x a list of one's own -/
theorem psd_ext {i : Nat} {x : Str} {p1 p2 cpos pos : Pos} (hi : i ∈ O) (h1 : PE X (.Name x p1) (tVar i)) (he : PD X .rep O W f e)
    (hbase : attributeBase (.Name x p1) "extend" X.env (eval (.Name x p1) X.env) = eval (.Name x p1) X.env := by rfl)
    (hfew : ((backTo cpos (starEach (e :: []) X.env)).all (fun x => !x.1) && (backToKw cpos (keywordEach [] X.env)).all (fun x => x.1.isSome) && decide ((e :: []).length + ([] : List Keyword).length + (if ([] : List Keyword).isEmpty then 0 else 1) < 30)) = true := by rfl)
    (hline : (p2.endLine == cpos.line) = true := by rfl) (hst : starEach (e :: []) X.env = (false, eval e X.env) :: starEach [] X.env := by rfl) (hplain : (backTo cpos (starEach [] X.env)).any (·.1) = false := by rfl)
    (hsw : swapsWith (.Call (.Attribute (.Name x p1) "extend" p2) [e] [] cpos) none pos.line X.env = pure false := by rfl) :
    PSD X O O W (sExt i f) (.Expr (.Call (.Attribute (.Name x p1) "extend" p2) [e] [] cpos) pos) := fun B =>
  PS.imp (ps_expr (pe_bm PySem.F.plainAttrs_list PySem.F.slot_list_extend PySem.F.type_list_extend mt_extend h1 (pa_cons he pa_nil hst) hbase hfew hline hst hplain) hsw) fun E σ H ⟨ρ, F, sb, q⟩ => by
    unfold sExt at q
    split at q
    · rename_i xs hr
      obtain ⟨o, vs, h2, h3, h4, h5, h6⟩ := sb.sr.ownL hr hi
      refine ⟨_, h2, .inl ⟨rfl, vs, SqL.of h3⟩, ρ, F, sb.sr, GoalS.val sb q fun d v F1 H1 _ e1 r q => ?_⟩
      have r' : Rep X.K X.mg F1 d v := r
      split at q
      · rename_i ys
        split at q
        · rename_i hz
          rw [lim_eq] at hz
          simp only [Rep] at r'
          obtain ⟨b, ws, rfl, g1, g2, g3⟩ := r'
          have h3' := e1.hh _ _ h3
          refine ⟨o, b, vs, ws, rfl, rfl, h3', e1.fh _ _ g1, by rw [h5.len, g2.len]; exact hz, ?_⟩
          exact q σ F1 _ ((sb.extend e1).mut hi hr h2 ((RepL.mono e1.ff _ _ h5).append g2) (by rw [List.length_append]; exact hz))
        · exact q.elim
      · exact q.elim
    · exact q.elim
/-- x[k] = e, x a list of one's own -/
theorem psd_put {i : Nat} {x : Str} {k : Expr} {p1 p2 pos : Pos} (hi : i ∈ O) (h1 : PE X (.Name x p1) (tVar i)) (he : PD X .rep O W f e) (hk : PD X .look O W g k)
    (ha : ∀ v, assign (.Subscript (.Name x p1) k p2) X.env v = (do
      let ov ← holding [v] (eval (.Name x p1) X.env)
      let iv ← holding [v, ov] (eval k X.env)
      standAt p2
      holding [v, ov, iv] (setItem ov iv v)
      release [v, ov, iv] []) := by intro _; rfl)
    (hs : swapsWithSole [.Subscript (.Name x p1) k p2] e pos.line X.env = pure false := by rfl) (hw : swappedStores [.Subscript (.Name x p1) k p2] e X.env = pure none := by rfl)
    (hh : (assignEach [.Subscript (.Name x p1) k p2] X.env).map (·.2) = [assign (.Subscript (.Name x p1) k p2) X.env] := by rfl) :
    PSD X O O W (sPut i f g) (.Assign [.Subscript (.Name x p1) k p2] e pos) := fun B =>
  PS.imp (ps_asg he (pg_sub h1 hk set_list ha) hs hw hh) fun E σ H ⟨ρ, F, sb, q⟩ => ⟨ρ, F, sb.sr, GoalS.val sb q fun d v F1 H1 _ e1 r q => by
    have r' : Rep X.K X.mg F1 d v := r
    have sb1 := sb.extend e1
    split at q
    · rename_i xs hr
      obtain ⟨o, vs, h2, h3, h4, h5, h6⟩ := sb1.sr.ownL hr hi
      refine ⟨_, h2, ρ, F1, sb1.sr, GoalS.val sb1 q fun dk w F2 H2 _ e2 rk q => ?_⟩
      cases dk with
      | int j =>
        simp only at q
        split at q
        · rename_i hz
          cases Look.int (K := X.K) (mg := X.mg) (F := F2) (H := H2) rk
          have h3' := e2.hh _ _ h3
          refine ⟨o, vs, j, j.toNat, rfl, rfl, h3', ?_, ?_⟩
          · unfold ixN
            rw [if_pos hz.1, if_pos (by rw [h5.len]; exact hz.2)]
          · exact q σ F2 _ ((sb1.extend e2).mut hi hr h2 ((RepL.mono e2.ff _ _ h5).set j.toNat (Rep.mono e2.ff _ _ r')) (by rw [List.length_set]; exact h6))
        · exact q.elim
      | _ => exact q.elim
    · exact q.elim⟩
end

/-! ### two values at once -/
section
variable {X : Cx} {O O' O1 O2 ts : List Nat} {W : WX} {f g h : EF} {a b c : Expr} {pos : Pos}
/-- a, b = e1, e2, both sides written, plain local names -/
theorem psd_par {bi bj : Bool} {i j : Nat} {x y : Str} {px py pt : Pos} {kt k2 pt2} (hOi : O.contains i = false) (hOj : (stoO bi i O).contains j = false) (hc : X.calm = true) (hN : X.N.Nodup) (hi : X.N[i]? = some x) (hj : X.N[j]? = some y) (hij : i ≠ j)
    (hx : X.env.scope.names.lookup x = some .local) (hy : X.env.scope.names.lookup y = some .local) (ha : PD X (mdS bi) O W f a) (hb : PD X (mdS bj) O W g b)
    (hw : swappedStores [.Tuple [.Name x px, .Name y py] kt pt] (.Tuple [a, b] k2 pt2) X.env = pure (some [x, y]) := by rfl)
    (hs : swapsWithSole [.Tuple [.Name x px, .Name y py] kt pt] (.Tuple [a, b] k2 pt2) pos.line X.env = pure false := by rfl)
    (st : starEach [a, b] X.env = (false, eval a X.env) :: starEach [b] X.env := by rfl) (st2 : starEach [b] X.env = (false, eval b X.env) :: starEach [] X.env := by rfl) :
    PSD X O (stoO bj j (stoO bi i O)) W (sPar2 bi i f bj j g) (.Assign [.Tuple [.Name x px, .Name y py] kt pt] (.Tuple [a, b] k2 pt2) pos) := fun B =>
  PS.imp (ps_par hc hN hi hj hij hx hy (pa_cons ha (pa_cons hb pa_nil st2) st) hw hs) fun E σ H ⟨ρ, F, sb, q⟩ => ⟨ρ, F, sb.sr, GoalS.val sb q fun d v F1 H1 _ e1 r q => ⟨ρ, F1, (sb.extend e1).sr, GoalS.val (sb.extend e1) q fun d2 w F2 H2 _ e2 r2 q => ⟨v, w, rfl, by
    have sb2 := (sb.extend e1).extend e2
    have v1 := ValS.of (K := X.K) (mg := X.mg) (F' := F1) (H' := H1) sb e1 r
    have v2 := ValS.of (K := X.K) (mg := X.mg) (F' := F2) (H' := H2) (sb.extend e1) e2 r2
    cases es1 : RT.sto bi i d ρ with
    | none => rw [es1] at q; exact q.elim
    | some ρ1 =>
      rw [es1] at q
      cases es2 : RT.sto bj j d2 ρ1 with
      | none => rw [Option.bind_some, es2] at q; exact q.elim
      | some ρ2 =>
        rw [Option.bind_some, es2] at q
        have v1' := v1.ext (sb.extend e1).sr e2
        have s3 := sb2.sto hOi v1' es1
        have v3 := ValS.next (F1 := F1) (H1 := H1) hOi v1' es1 v1 e2 v2 (fun hb => (Val.news r2 es2 hb).2) sb.sr.len
        exact q _ F2 H2 (s3.sto hOj v3 es2)⟩⟩⟩
/-- a, b, c = e1, e2, e3, plain local names -/
theorem psd_par3 {bi bj bk : Bool} {i j k : Nat} {x y z : Str} {px py pz pt : Pos} {kt k2 pt2} (hOi : O.contains i = false) (hOj : (stoO bi i O).contains j = false) (hOk : (stoO bj j (stoO bi i O)).contains k = false) (hc : X.calm = true) (hN : X.N.Nodup) (hi : X.N[i]? = some x) (hj : X.N[j]? = some y) (hk : X.N[k]? = some z)
    (hij : i ≠ j) (hik : i ≠ k) (hjk : j ≠ k) (hx : X.env.scope.names.lookup x = some .local) (hy : X.env.scope.names.lookup y = some .local) (hz : X.env.scope.names.lookup z = some .local)
    (ha : PD X (mdS bi) O W f a) (hb : PD X (mdS bj) O W g b) (hcc : PD X (mdS bk) O W h c)
    (hw : swappedStores [.Tuple [.Name x px, .Name y py, .Name z pz] kt pt] (.Tuple [a, b, c] k2 pt2) X.env = pure (some [x, y, z]) := by rfl)
    (hs : swapsWithSole [.Tuple [.Name x px, .Name y py, .Name z pz] kt pt] (.Tuple [a, b, c] k2 pt2) pos.line X.env = pure false := by rfl)
    (st : starEach [a, b, c] X.env = (false, eval a X.env) :: starEach [b, c] X.env := by rfl) (st1 : starEach [b, c] X.env = (false, eval b X.env) :: starEach [c] X.env := by rfl) (st2 : starEach [c] X.env = (false, eval c X.env) :: starEach [] X.env := by rfl) :
    PSD X O (stoO bk k (stoO bj j (stoO bi i O))) W (sPar3 bi i f bj j g bk k h) (.Assign [.Tuple [.Name x px, .Name y py, .Name z pz] kt pt] (.Tuple [a, b, c] k2 pt2) pos) := fun B =>
  PS.imp (ps_par3 hc hN hi hj hk hij hik hjk hx hy hz (pa_cons ha (pa_cons hb (pa_cons hcc pa_nil st2) st1) st) hw hs) fun E σ H ⟨ρ, F, sb, q⟩ => ⟨ρ, F, sb.sr, GoalS.val sb q fun d v F1 H1 _ e1 r q => ⟨ρ, F1, (sb.extend e1).sr, GoalS.val (sb.extend e1) q fun d2 w F2 H2 _ e2 r2 q => ⟨ρ, F2, ((sb.extend e1).extend e2).sr, GoalS.val ((sb.extend e1).extend e2) q fun d3 u F3 H3 _ e3 r3 q => ⟨v, w, u, rfl, by
    have sb2 := (sb.extend e1).extend e2
    have sb3 := sb2.extend e3
    have v1 := ValS.of (K := X.K) (mg := X.mg) (F' := F1) (H' := H1) sb e1 r
    have v2 := ValS.of (K := X.K) (mg := X.mg) (F' := F2) (H' := H2) (sb.extend e1) e2 r2
    have v3 := ValS.of (K := X.K) (mg := X.mg) (F' := F3) (H' := H3) sb2 e3 r3
    cases es1 : RT.sto bi i d ρ with
    | none => rw [es1] at q; exact q.elim
    | some ρ1 =>
      rw [es1] at q
      cases es2 : RT.sto bj j d2 ρ1 with
      | none => rw [Option.bind_some, es2] at q; exact q.elim
      | some ρ2 =>
        rw [Option.bind_some, es2, Option.bind_some] at q
        cases es3 : RT.sto bk k d3 ρ2 with
        | none => rw [es3] at q; exact q.elim
        | some ρ3 =>
          rw [es3] at q
          have v1' := v1.ext (sb.extend e1).sr e2
          have v1'' := v1'.ext sb2.sr e3
          have s4 := sb3.sto hOi v1'' es1
          have w2 := ValS.next (F1 := F1) (H1 := H1) hOi v1'' es1 v1 (e2.trans e3) (v2.ext sb2.sr e3) (fun hb => ((Val.news r2 es2 hb).ext e3).2) sb.sr.len
          have s5 := s4.sto hOj w2 es2
          have w3 := ValS.next (F1 := F2) (H1 := H2) hOi v1'' es1 v1' e3 v3 (fun hb => (Val.news r3 es3 hb).2) sb.sr.len
          have w2' := ValS.next (F1 := F1) (H1 := H1) hOi v1' es1 v1 e2 v2 (fun hb => (Val.news r2 es2 hb).2) sb.sr.len
          have w4 := ValS.next (F1 := F2) (H1 := H2) hOj w2 es2 w2' e3 w3 (fun hb => (Val.news r3 es3 hb).2) s4.sr.len
          exact q _ F3 H3 (s5.sto hOk w4 es3)⟩⟩⟩⟩
end

/-! ### raise, calls, defs -/
/-- what a def promises: its values by f; n parameters -/
def spD (K : PySem.W.Frag) (mg : Str → Option Value) (n : Nat) (f : List D → R D) : Sp := fun vs H Q E => vs.length = n ∧ ∃ ds F, Same F H ∧ RepL K mg F ds vs ∧ match f ds with
  | .ok d => ∀ v F' H', Ext F H F' H' → Rep K mg F' d v → Q v H'
  | .err c => ∀ F' H', Ext F H F' H' → ∀ C, mg c = some (.ref C) → E (.ref C) none H'
  | .stuck => False
section
variable {X : Cx} {O O' : List Nat} {W : WX} {f : EF} {ar : AF} {e : Expr} {es : List Expr} {pos : Pos}
/-- a call of a def of the module -/
theorem pd_call {k n : Nat} {fa : Addr} {fd : FuncData} {ps : List Str} {F : List D → R D} {x : Str} {p : Pos} (G : FnOk X.prog X.w X.K X.mg X.base (L2.CX X.prog X.w) k fa fd ps (spD X.K X.mg n F)) (hr : Room k X.A) (hg : Gl X x) (hm : X.mg x = some (.ref fa)) (hk : PySem.W.keepIn X.K (.ref fa) = true) (hb : Binds X.K fd ps [])
    (tk : Takes X W) (ha : PAD X .rep O W ar (e :: es)) (hn : ∀ ρ ds, ar ρ = .ok ds → ds.length = n) (hdb : (x == ("__debug__" : Str)) = false := by decide) (he : starEach (e :: es) X.env = (false, eval e X.env) :: starEach es X.env := by rfl) (hpl : (backTo pos (starEach es X.env)).any (·.1) = false := by rfl) :
    PD X .rep O W (eF F ar) (.Call (.Name x p) (e :: es) [] pos) :=
  PE.imp (pe_callS G hr hg hm hk hb (fun σ => passAt tk σ) ha hdb he hpl) fun σ H Q ⟨ρ, F', s, q⟩ => ⟨ρ, F', s, Goal.bindA q fun ds vs F1 H1 ed e1 l q => by
    have l' : RepL X.K X.mg F1 ds vs := l
    refine ⟨by rw [l'.len]; exact hn ρ ds ed, ds, F1, e1.fh, l', ?_⟩
    cases hf : F ds with
    | ok d => rw [hf] at q; exact q
    | err c => rw [hf] at q; exact fun F' H' e' C hC => q F' H' e' C hC
    | stuck => rw [hf] at q; exact q⟩
theorem aN_len : ∀ ρ ds, aN ρ = .ok ds → ds.length = 0 := fun ρ ds h => by cases h; rfl
theorem aC_len {f : EF} {ar : AF} {n : Nat} (h : ∀ ρ ds, ar ρ = .ok ds → ds.length = n) : ∀ ρ ds, aC f ar ρ = .ok ds → ds.length = n + 1 := fun ρ ds q => by
  unfold aC at q
  cases hf : f ρ with
  | ok d =>
    rw [hf] at q
    simp only [R.bind_ok] at q
    cases ha : ar ρ with
    | ok xs => rw [ha] at q; cases q; rw [List.length_cons, h ρ xs ha]
    | err c => rw [ha] at q; cases q
    | stuck => rw [ha] at q; cases q
  | err c => rw [hf] at q; cases q
  | stuck => rw [hf] at q; cases q
theorem pd_call0 {k : Nat} {fa : Addr} {fd : FuncData} {ps : List Str} {F : List D → R D} {x : Str} {p : Pos} (G : FnOk X.prog X.w X.K X.mg X.base (L2.CX X.prog X.w) k fa fd ps (spD X.K X.mg 0 F)) (hr : Room k X.A) (hg : Gl X x) (hm : X.mg x = some (.ref fa)) (hk : PySem.W.keepIn X.K (.ref fa) = true) (hb : Binds X.K fd ps [])
    (tk : ∀ σ, PassesAt (L2.CX X.prog X.w) X σ (WE W σ)) (hdb : (x == ("__debug__" : Str)) = false := by decide) : PD X .rep O W (eF F aN) (.Call (.Name x p) [] [] pos) := by
  refine ⟨fun pins s σ H Q I ⟨ρ, F', sr, q⟩ => ?_⟩
  refine wpAny_Call_Name_kw (ld_glob I hg hm ?_ hdb)
  refine PySem.W.callWith_K0 I.kIn hk (run_fnS (us := []) (E := WE W) G hr hb (tk σ) I .nil ⟨rfl, [], F', sr.sub, by simp [RepL], ?_⟩)
  have q' : Goal X.K X.mg .rep W σ F' H (F []) Q := q
  cases hf : F [] with
  | ok d => rw [hf] at q'; exact q'
  | err c => rw [hf] at q'; exact fun F' H' e' C hC => q' F' H' e' C hC
  | stuck => rw [hf] at q'; exact q'
/-- raise X('..') -/
theorem psd_raise {x m : Str} {j : Nat} {C : Addr} {bmB : List Value} {Bn newId initId : String} {p p2 p3 : Pos} (hc : X.calm = true) (tk : Takes X W) (Fx : ExcBaseFacts Bn newId initId bmB) (q : PySem.W.excIn X.K C bmB newId = true) (gC : X.mg x = some (.ref C)) (kC : PySem.W.keepIn X.K (.ref C) = true) (r : Raises X (.ref C)) (hg : Gl X x)
    (hdb : (x == ("__debug__" : Str)) = false := by decide) : PSD X O O' W (sRaise x) (.Raise (some (.Call (.Name x p) [.Constant (.str m) j p2] [] p3)) none pos) := fun B =>
  PS.imp (ps_raise hc tk (pmk_own Fx q gC kC r hg hdb)) fun E σ H ⟨ρ, F, sb, q⟩ => q O σ F H sb C gC
end
section
variable {P : Program} {w : World} {K : PySem.W.Frag} {mg : Str → Option Value} {base : Heap}
theorem start_SR {N : List Str} {ds : List D} {vs : List V} {F H : Hp} (s : Same F H) (r : RepL K mg F ds vs) (hl : ds.length ≤ N.length) : SB K mg (F, H) [] (ds.map some ++ List.replicate (N.length - ds.length) none) F (L2.start N vs) H := by
  have hlen : (L2.start N vs).length = (ds.map some ++ List.replicate (N.length - ds.length) (none : Option D)).length := by
    unfold L2.start
    rw [List.length_append, List.length_map, List.length_replicate, List.length_append, List.length_map, List.length_replicate, r.len]
  refine ⟨⟨s, fun i d h _ => ?_, fun i d _ n => absurd n (by simp), fun i j d e a b x n => absurd n (by simp), hlen⟩, .refl s, fun i d o n => absurd n (by simp)⟩
  by_cases hi : i < ds.length
  · rw [List.getElem?_append_left (by rw [List.length_map]; exact hi), List.getElem?_map] at h
    cases e : ds[i]? with
    | none => rw [e] at h; cases h
    | some d' =>
      rw [e] at h
      cases h
      obtain ⟨v, h1, h2⟩ := r.get e
      refine ⟨v, ?_, h2⟩
      unfold L2.start
      rw [List.getElem?_append_left (by rw [List.length_map, r.len]; exact hi), List.getElem?_map, h1]
      rfl
  · rw [List.getElem?_append_right (by rw [List.length_map]; omega), List.getElem?_replicate] at h
    split at h <;> cases h
/-- THE RULE for a def -/
theorem fn_ok {x qual : Str} {st : Stmt} {f : Addr} {fd : FuncData} {N ps : List Str} {k m : Nat} {s : SF} {O' : List Nat} (G : Fun K x qual st f fd) (S : FnScope N ps (defScope st)) (hn : ps.length + m = N.length)
    (hbody : ∀ (cdv : Value) (A : Around) (outer : List PySem.Env) (sh : Shared) (H : Hp) (E : XK), Room k (A.deeper (envOfC qual (defScope st) sh.heap.objs.size f cdv)) →
      PSsD (cxOf (L2.CX P w) P w K mg base N qual (defScope st) f cdv A outer sh H E) [] O' (fun cls d _ H => E cls d H) s (defBody st)) : FnOk P w K mg base (L2.CX P w) (k + 1) f fd ps (spD K mg ps.length (body m s)) := by
  refine G.okX S (fun vs H Q E h => h.1) fun cdv A outer sh H vs Q E hr h => ?_
  obtain ⟨h1, ds, F, h2, h3, h4⟩ := h
  refine ⟨_, hbody cdv A outer sh H E hr (F, H), ?_⟩
  have hl : ds.length = ps.length := by rw [← h3.len]; exact h1
  refine ⟨_, F, start_SR (N := N) h2 h3 (by omega), ?_⟩
  show GoalS K mg (F, H) O' (fun cls d _ H => E cls d H) (s _) _
  have hm : N.length - ds.length = m := by omega
  rw [hm]
  unfold body at h4
  cases hs : s (ds.map some ++ List.replicate m none) with
  | nx ρ =>
    rw [hs] at h4
    exact fun σ F' H' sb => h4 .non F' H' sb.ext (by simp [Rep])
  | rt d =>
    rw [hs] at h4
    exact fun v F' H' e r => h4 v F' H' e r
  | er c ρ =>
    rw [hs] at h4
    exact fun O1 σ F' H' sb C hC => h4 F' H' sb.ext C hC
  | stuck => rw [hs] at h4; exact h4
end
end RT

namespace RT
open PySem PySem.Spec PyProof.Rows L2
/-! ### built-ins -/
section
variable {K : PySem.W.Frag} {mg : Str → Option Value}
theorem LookL.one {F H : Hp} {d : D} {vs : List V} (h : LookL K mg F H [d] vs) : ∃ v, vs = [v] ∧ Look K mg F H d v := by
  simp only [LookL] at h
  obtain ⟨v, _, rfl, l, rfl⟩ := h
  exact ⟨v, rfl, l⟩
theorem LookL.two {F H : Hp} {d e : D} {vs : List V} (h : LookL K mg F H [d, e] vs) : ∃ v w, vs = [v, w] ∧ Look K mg F H d v ∧ Look K mg F H e w := by
  simp only [LookL] at h
  obtain ⟨v, _, rfl, l, w, _, rfl, l2, rfl⟩ := h
  exact ⟨v, w, rfl, l, l2⟩
theorem ok_len : OkC K mg (fun xs H Q => ∃ x n, xs = [x] ∧ LenV K x H n ∧ Q (.int n) H) D.bLen := by
  intro W σ F H ds vs Q s l q
  match ds, l, q with
  | [d], l, q =>
    obtain ⟨v, rfl, k⟩ := l.one
    cases d with
    | lst xs =>
      obtain ⟨a, vs, rfl, h1, h2, _⟩ := k.lst
      exact ⟨_, xs.length, rfl, .inl ⟨vs, SqL.of h1, h2.len.symm⟩, gInt s q⟩
    | tup xs =>
      obtain ⟨a, vs, rfl, h1, h2, _⟩ := k.tup s
      exact ⟨_, xs.length, rfl, .inr ⟨vs, SqT.of h1, h2.len.symm⟩, gInt s q⟩
    | scr ns =>
      have l' : Rep K mg F (.scr ns) v := k
      simp only [Rep] at l'
      obtain ⟨a, rfl, h1, _⟩ := l'
      exact ⟨_, ns.length, rfl, .inl ⟨_, s.seq h1, by rw [List.length_map]⟩, gInt s q⟩
    | str z =>
      cases Look.str k
      simp only [D.bLen, D.len] at q
      split at q
      · rename_i hz
        exact ⟨_, z.length, rfl, ⟨by rw [← lim_eq]; exact hz, rfl⟩, gInt s q⟩
      · exact q.elim
    | _ => exact q.elim
  | [], _, q => exact q.elim
  | d :: _ :: _, _, q => cases d <;> exact q.elim
theorem ok_abs : OkC K mg (fun xs H Q => ∃ i, xs = [.int i] ∧ Q (.int (if i < 0 then -i else i)) H) D.bAbs := by
  intro W σ F H ds vs Q s l q
  match ds, l, q with
  | [d], l, q =>
    obtain ⟨v, rfl, k⟩ := l.one
    cases d with
    | int i => cases Look.int k; exact ⟨i, rfl, gInt s q⟩
    | _ => exact q.elim
  | [], _, q => exact q.elim
  | d :: _ :: _, _, q => cases d <;> exact q.elim
theorem ok_max2 : OkC K mg (fun xs H Q => ∃ i j, xs = [.int i, .int j] ∧ Q (.int (if j > i then j else i)) H) D.bMax2 := by
  intro W σ F H ds vs Q s l q
  match ds, l, q with
  | [d, e], l, q =>
    obtain ⟨v, w, rfl, k, k2⟩ := l.two
    cases d with
    | int i =>
      cases e with
      | int j => cases Look.int k; cases Look.int k2; exact ⟨i, j, rfl, gInt s q⟩
      | _ => exact q.elim
    | _ => cases e <;> exact q.elim
  | [], _, q => exact q.elim
  | [d], _, q => cases d <;> exact q.elim
  | d :: e :: _ :: _, _, q => cases d <;> (cases e <;> exact q.elim)
theorem ok_min2 : OkC K mg (fun xs H Q => ∃ i j, xs = [.int i, .int j] ∧ Q (.int (if j < i then j else i)) H) D.bMin2 := by
  intro W σ F H ds vs Q s l q
  match ds, l, q with
  | [d, e], l, q =>
    obtain ⟨v, w, rfl, k, k2⟩ := l.two
    cases d with
    | int i =>
      cases e with
      | int j => cases Look.int k; cases Look.int k2; exact ⟨i, j, rfl, gInt s q⟩
      | _ => exact q.elim
    | _ => cases e <;> exact q.elim
  | [], _, q => exact q.elim
  | [d], _, q => cases d <;> exact q.elim
  | d :: e :: _ :: _, _, q => cases d <;> (cases e <;> exact q.elim)
theorem intsOf_eq : ∀ {ds : List D} {ns : List Int}, D.intsOf ds = some ns → ds = ns.map D.int
  | [], _, h => by cases h; rfl
  | .int i :: r, ns, h => by
    simp only [D.intsOf] at h
    cases e : D.intsOf r with
    | none => rw [e] at h; cases h
    | some ms => rw [e] at h; cases h; rw [intsOf_eq e]; rfl
  | .non :: _, _, h => by cases h
  | .bl _ :: _, _, h => by cases h
  | .str _ :: _, _, h => by cases h
  | .tup _ :: _, _, h => by cases h
  | .lst _ :: _, _, h => by cases h
  | .exc _ _ :: _, _, h => by cases h
  | .fn _ :: _, _, h => by cases h
  | .scr _ :: _, _, h => by cases h
theorem blsOf_eq : ∀ {ds : List D} {ns : List Bool}, D.blsOf ds = some ns → ds = ns.map D.bl
  | [], _, h => by cases h; rfl
  | .bl i :: r, ns, h => by
    simp only [D.blsOf] at h
    cases e : D.blsOf r with
    | none => rw [e] at h; cases h
    | some ms => rw [e] at h; cases h; rw [blsOf_eq e]; rfl
  | .non :: _, _, h => by cases h
  | .int _ :: _, _, h => by cases h
  | .str _ :: _, _, h => by cases h
  | .tup _ :: _, _, h => by cases h
  | .lst _ :: _, _, h => by cases h
  | .exc _ _ :: _, _, h => by cases h
  | .fn _ :: _, _, h => by cases h
  | .scr _ :: _, _, h => by cases h
theorem RepL.bls {F : Hp} : ∀ {ns : List Bool} {vs : List V}, RepL K mg F (ns.map D.bl) vs → vs = ns.map V.bl
  | [], _, h => by simpa [RepL] using h
  | n :: ns, vs, h => by
    simp only [List.map_cons, RepL, Rep] at h
    obtain ⟨v, vs', rfl, rfl, h⟩ := h
    rw [RepL.bls h]; rfl
theorem onInts_ok {f : List Int → R D} {W : WX} {σ : L2.St} {F H : Hp} {ds : List D} {vs : List V} {Q : VK} (s : Same F H) (l : LookL K mg F H ds vs) (q : Goal K mg .fresh W σ F H (D.onInts f ds) Q) :
    ∃ a ns, vs = [V.ref a] ∧ SqL K H a (ns.map V.int) ∧ Goal K mg .fresh W σ F H (f ns) Q := by
  match ds, l, q with
  | [.lst xs], l, q =>
    obtain ⟨v, rfl, k⟩ := l.one
    simp only [D.onInts] at q
    obtain ⟨a, vs, rfl, h1, h2, _⟩ := k.lst
    split at q
    · rename_i ns e
      rw [intsOf_eq e] at h2
      rw [h2.ints] at h1
      exact ⟨a, ns, rfl, SqL.of h1, q⟩
    · exact q.elim
  | [], _, q => exact q.elim
  | [.non], _, q => exact q.elim
  | [.bl _], _, q => exact q.elim
  | [.int _], _, q => exact q.elim
  | [.str _], _, q => exact q.elim
  | [.tup _], _, q => exact q.elim
  | [.exc _ _], _, q => exact q.elim
  | [.fn _], _, q => exact q.elim
  | [.scr _], _, q => exact q.elim
  | d :: _ :: _, _, q => cases d <;> exact q.elim
theorem onBls_ok {f : List Bool → R D} {W : WX} {σ : L2.St} {F H : Hp} {ds : List D} {vs : List V} {Q : VK} (s : Same F H) (l : LookL K mg F H ds vs) (q : Goal K mg .fresh W σ F H (D.onBls f ds) Q) :
    ∃ a ns, vs = [V.ref a] ∧ SqL K H a (ns.map V.bl) ∧ Goal K mg .fresh W σ F H (f ns) Q := by
  match ds, l, q with
  | [.lst xs], l, q =>
    obtain ⟨v, rfl, k⟩ := l.one
    simp only [D.onBls] at q
    obtain ⟨a, vs, rfl, h1, h2, _⟩ := k.lst
    split at q
    · rename_i ns e
      rw [blsOf_eq e] at h2
      rw [h2.bls] at h1
      exact ⟨a, ns, rfl, SqL.of h1, q⟩
    · exact q.elim
  | [], _, q => exact q.elim
  | [.non], _, q => exact q.elim
  | [.bl _], _, q => exact q.elim
  | [.int _], _, q => exact q.elim
  | [.str _], _, q => exact q.elim
  | [.tup _], _, q => exact q.elim
  | [.exc _ _], _, q => exact q.elim
  | [.fn _], _, q => exact q.elim
  | [.scr _], _, q => exact q.elim
  | d :: _ :: _, _, q => cases d <;> exact q.elim
theorem ok_sum : OkC K mg (rSum K) D.bSum := by
  intro W σ F H ds vs Q s l q
  obtain ⟨a, ns, rfl, h, q⟩ := onInts_ok s l q
  exact ⟨a, ns, rfl, h, gInt s q⟩
theorem maxI_spec : ∀ (ns : List Int), ns ≠ [] → D.maxI ns ∈ ns ∧ ∀ y, y ∈ ns → y ≤ D.maxI ns
  | [], h => absurd rfl h
  | [x], _ => by simp [D.maxI]
  | x :: y :: r, _ => by
    obtain ⟨h1, h2⟩ := maxI_spec (y :: r) (by simp)
    simp only [D.maxI]
    split
    · rename_i hx
      refine ⟨List.mem_cons_self, fun z hz => ?_⟩
      rcases List.mem_cons.mp hz with rfl | hz
      · exact Int.le_refl _
      · have := h2 z hz; omega
    · rename_i hx
      refine ⟨List.mem_cons_of_mem _ h1, fun z hz => ?_⟩
      rcases List.mem_cons.mp hz with rfl | hz
      · omega
      · exact h2 z hz
theorem minI_spec : ∀ (ns : List Int), ns ≠ [] → D.minI ns ∈ ns ∧ ∀ y, y ∈ ns → D.minI ns ≤ y
  | [], h => absurd rfl h
  | [x], _ => by simp [D.minI]
  | x :: y :: r, _ => by
    obtain ⟨h1, h2⟩ := minI_spec (y :: r) (by simp)
    simp only [D.minI]
    split
    · rename_i hx
      refine ⟨List.mem_cons_self, fun z hz => ?_⟩
      rcases List.mem_cons.mp hz with rfl | hz
      · exact Int.le_refl _
      · have := h2 z hz; omega
    · rename_i hx
      refine ⟨List.mem_cons_of_mem _ h1, fun z hz => ?_⟩
      rcases List.mem_cons.mp hz with rfl | hz
      · omega
      · exact h2 z hz
theorem ok_max : OkC K mg (rMax K) D.bMax := by
  intro W σ F H ds vs Q s l q
  obtain ⟨a, ns, rfl, h, q⟩ := onInts_ok s l q
  split at q
  · exact q.elim
  · rename_i hne
    have hne' : ns ≠ [] := fun e => hne (by rw [e]; rfl)
    refine ⟨a, ns, rfl, h, List.length_pos_iff.mpr hne', fun m h1 h2 => ?_⟩
    obtain ⟨g1, g2⟩ := maxI_spec ns hne'
    have e : m = D.maxI ns := by have := h2 _ g1; have := g2 _ h1; omega
    rw [e]
    exact gInt s q
theorem ok_min : OkC K mg (rMin K) D.bMin := by
  intro W σ F H ds vs Q s l q
  obtain ⟨a, ns, rfl, h, q⟩ := onInts_ok s l q
  split at q
  · exact q.elim
  · rename_i hne
    have hne' : ns ≠ [] := fun e => hne (by rw [e]; rfl)
    refine ⟨a, ns, rfl, h, List.length_pos_iff.mpr hne', fun m h1 h2 => ?_⟩
    obtain ⟨g1, g2⟩ := minI_spec ns hne'
    have e : m = D.minI ns := by have := h2 _ g1; have := g2 _ h1; omega
    rw [e]
    exact gInt s q
theorem ok_any : OkC K mg (rAny K) D.bAny := by
  intro W σ F H ds vs Q s l q
  obtain ⟨a, ns, rfl, h, q⟩ := onBls_ok s l q
  exact ⟨a, ns, rfl, h, gBl s q⟩
theorem ok_all : OkC K mg (rAll K) D.bAll := by
  intro W σ F H ds vs Q s l q
  obtain ⟨a, ns, rfl, h, q⟩ := onBls_ok s l q
  exact ⟨a, ns, rfl, h, gBl s q⟩
theorem ok_tuple : OkC K mg (fun xs H Q => ∃ p ys, xs = [.ref p] ∧ ((SqL K H p ys ∧ ∀ l, H l = none → Q (.ref l) (upd H l (.tup ys))) ∨ (SqT K H p ys ∧ Q (.ref p) H))) D.bTuple := by
  intro W σ F H ds vs Q s l q
  match ds, l, q with
  | [d], l, q =>
    obtain ⟨v, rfl, k⟩ := l.one
    cases d with
    | lst xs =>
      obtain ⟨a, vs, rfl, h1, h2, h3⟩ := k.lst
      exact ⟨a, vs, rfl, .inl ⟨SqL.of h1, gTup s h2 h3 q⟩⟩
    | tup xs =>
      have l' : Rep K mg F (.tup xs) v := k
      obtain ⟨a, vs, rfl, h1, h2, h3⟩ := k.tup s
      exact ⟨a, vs, rfl, .inr ⟨SqT.of h1, q.done s l'⟩⟩
    | _ => exact q.elim
  | [], _, q => exact q.elim
  | d :: _ :: _, _, q => cases d <;> exact q.elim
theorem ok_list : OkC K mg (fun xs H Q => ∃ p ys, xs = [.ref p] ∧ (SqL K H p ys ∨ SqT K H p ys) ∧ ∀ l, H l = none → Q (.ref l) (upd H l (.lst ys))) D.bList := by
  intro W σ F H ds vs Q s l q
  match ds, l, q with
  | [d], l, q =>
    obtain ⟨v, rfl, k⟩ := l.one
    cases d with
    | lst xs =>
      obtain ⟨a, vs, rfl, h1, h2, h3⟩ := k.lst
      exact ⟨a, vs, rfl, .inl (SqL.of h1), gLst s h2 h3 q⟩
    | tup xs =>
      obtain ⟨a, vs, rfl, h1, h2, h3⟩ := k.tup s
      exact ⟨a, vs, rfl, .inr (SqT.of h1), gLst s h2 h3 q⟩
    | _ => exact q.elim
  | [], _, q => exact q.elim
  | d :: _ :: _, _, q => cases d <;> exact q.elim
end
def tyN : D.Ty → String
  | .int => "int"
  | .bool => "bool"
  | .tuple => "tuple"
  | .list => "list"
  | .str => "str"
section
variable {X : Cx} {O : List Nat} {W : WX} {f : EF} {e : Expr} {p p2 pos : Pos} {x : Str}
/-- isinstance(e, T), T a built-in type -/
theorem pd_isI (T : D.Ty) (hg : Gl X "isinstance") (hm : X.mg "isinstance" = none) (hv : bootBuiltins "isinstance" = some (.builtin "isinstance")) (hgT : Gl X x) (hmT : X.mg x = none) (hvT : bootBuiltins x = some (.type (tyN T))) (h : PD X .look O W f e) (hn : x ≠ "__name__" := by decide) (hdb : (x == ("__debug__" : Str)) = false := by decide)
    (he : starEach (e :: [.Name x p2]) X.env = (false, eval e X.env) :: starEach [.Name x p2] X.env := by rfl) (he2 : starEach [.Name x p2] X.env = (false, eval (.Name x p2) X.env) :: starEach [] X.env := by rfl) (hpl : (backTo pos (starEach [.Name x p2] X.env)).any (·.1) = false := by rfl) :
    PD X .fresh O W (e1 (D.isI T) f) (.Call (.Name "isinstance" p) [e, .Name x p2] [] pos) :=
  PE.imp (pe_callB call_isi hg hm hv (pa_cons h (pa_cons (pe_bltn hgT hmT hvT (v := .ty (tyN T)) rfl hn hdb) pa_nil he2) he) (by decide) (by decide) he hpl) fun σ H Q ⟨ρ, F, s, q⟩ => ⟨ρ, F, s, Goal.bind q fun d v F1 H1 _ e1 l q => by
    have l' : Look X.K X.mg F1 H1 d v := l
    have fin : ∀ {t : String} {r : Bool}, TyOf X.K H1 v (.type t) → kitB t (tyN T) = some r → D.isI T d = .ok (.bl r) → tCB (rIsi X.K) (fun σ' H Q => Q [v, .ty (tyN T)] H) σ H1 Q := fun {t r} ty hk hr => by
      rw [hr] at q
      exact ⟨v, .ty (tyN T), .type t, .type (tyN T), r, rfl, .ty _, .base ty, kit_ty hk, gBl e1.fh q⟩
    cases d with
    | non =>
      have z : v = .non := by simpa [Look, Rep] using l'
      subst z
      cases T <;> exact fin .non (by decide +kernel) rfl
    | bl b => cases Look.bl l'; cases T <;> exact fin (.bl b) (by decide +kernel) rfl
    | int i => cases Look.int l'; cases T <;> exact fin (.int i) (by decide +kernel) rfl
    | str i => cases Look.str l'; cases T <;> exact fin (.str i) (by decide +kernel) rfl
    | tup xs =>
      obtain ⟨a, vs, rfl, h1, _⟩ := l'.tup e1.fh
      cases T <;> exact fin (.tup h1) (by decide +kernel) rfl
    | lst xs =>
      obtain ⟨a, vs, rfl, h1, _⟩ := l'.lst
      cases T <;> exact fin (.lst h1) (by decide +kernel) rfl
    | exc c _ => cases T <;> exact q.elim
    | fn c => cases T <;> exact q.elim
    | dct _ => cases T <;> exact q.elim
    | dtt _ => cases T <;> exact q.elim
    | clk _ _ _ _ => cases T <;> exact q.elim
    | scr c => cases T <;> exact q.elim⟩
end
end RT

namespace RT
open PySem PySem.Spec PyProof.Rows L2
/-! ### what stands behind the top -/
/-- a def of the module -/
structure DefT (K : PySem.W.Frag) (mg : Str → Option Value) (x nm : Str) (st : Stmt) (ps : List Str) where
  fa : Addr
  fd : FuncData
  F : Fun K nm nm st fa fd
  g : mg x = some (.ref fa)
  b : Binds K fd ps []
/-- an exception class of the module, without __init__ -/
structure ExcT (K : PySem.W.Frag) (mg : Str → Option Value) (x : Str) where
  C : Addr
  g : mg x = some (.ref C)
  e : PySem.W.excIn K C [.type "ValueError", .type "Exception", .type "BaseException", .type "object"] "ValueError.__new__" = true
  k : PySem.W.keepIn K (.ref C) = true
  s : PySem.W.subIn K (.ref C) (.type "BaseException") = some true
  t : PySem.W.typeIn K (.ref C) = some (.type "type")
section
variable {X : Cx} {O O' : List Nat} {W : WX} {f g : EF} {e a b : Expr} {pos : Pos}
theorem pd_v (i : Nat) {x : Str} (hO : O.contains i = false := by rfl) (hN : X.N[i]? = some x := by rfl) (hv : Vis X.env.scope x := by first | exact Or.inl rfl | exact Or.inr (Or.inl rfl) | exact Or.inr (Or.inr rfl)) (hd : (x == ("__debug__" : Str)) = false := by decide) (hcd : (x == ("__classdict__" : Str)) = false := by decide) : PD X .rep O W (eV i) (.Name x pos) := pd_var hO hN hv hd hcd
theorem pd_vL (i : Nat) {x : Str} (hN : X.N[i]? = some x := by rfl) (hv : Vis X.env.scope x := by first | exact Or.inl rfl | exact Or.inr (Or.inl rfl) | exact Or.inr (Or.inr rfl)) (hd : (x == ("__debug__" : Str)) = false := by decide) (hcd : (x == ("__classdict__" : Str)) = false := by decide) : PD X .look O W (eV i) (.Name x pos) := pd_varL hN hv hd hcd
theorem psd_raiseT {x m : Str} {j : Nat} {p p2 p3 : Pos} (T : ExcT X.K X.mg x) (tk : Takes X W) (hc : X.calm = true := by rfl) (hg : Gl X x := by rfl) (hdb : (x == ("__debug__" : Str)) = false := by decide) : PSD X O O' W (sRaise x) (.Raise (some (.Call (.Name x p) [.Constant (.str m) j p2] [] p3)) none pos) :=
  psd_raise hc tk PySem.F.excBase_ValueError T.e T.g T.k (raises_own T.s T.t) hg hdb
theorem pd_callD {k n : Nat} {st : Stmt} {ps : List Str} {F : List D → R D} {x nm : Str} {p : Pos} {es : List Expr} {ar : AF} (T : DefT X.K X.mg x nm st ps) (G : FnOk X.prog X.w X.K X.mg X.base (L2.CX X.prog X.w) k T.fa T.fd ps (spD X.K X.mg n F)) (hr : Room k X.A)
    (tk : Takes X W) (ha : PAD X .rep O W ar (e :: es)) (hn : ∀ ρ ds, ar ρ = .ok ds → ds.length = n) (hg : Gl X x := by rfl) (hdb : (x == ("__debug__" : Str)) = false := by decide) (he : starEach (e :: es) X.env = (false, eval e X.env) :: starEach es X.env := by rfl) (hpl : (backTo pos (starEach es X.env)).any (·.1) = false := by rfl) :
    PD X .rep O W (eF F ar) (.Call (.Name x p) (e :: es) [] pos) := pd_call G hr hg T.g T.F.kp T.b tk ha hn hdb he hpl
end
/-- the law's promise, as the end wants it -/
def spLaw (K : PySem.W.Frag) : Sp := fun vs H Q _ => ∃ (a : Addr) (ns : List Int), vs = [.ref a] ∧ SqL K H a (ns.map V.int) ∧ ns.length ≤ 63 ∧ ∀ H', Q (.bl true) H'
theorem law_imp {P : Program} {w : World} {K : PySem.W.Frag} {mg : Str → Option Value} {base : Heap} {k : Nat} {f : Addr} {fd : FuncData} {ps : List Str} {F : List D → R D} (h : FnOk P w K mg base (L2.CX P w) k f fd ps (spD K mg 1 F))
    (t : ∀ ns : List Int, ns.length ≤ 63 → F [.scr ns] = .ok (.bl true)) : FnOk P w K mg base (L2.CX P w) k f fd ps (spLaw K) := h.imp fun vs H Q E ⟨a, ns, e, hS, hl, q⟩ => by
  subst e
  refine ⟨rfl, [.scr ns], H, .refl H, ?_, ?_⟩
  · simp only [RepL, Rep]
    exact ⟨_, _, rfl, ⟨a, rfl, hS, Nat.le_trans hl (by decide)⟩, rfl⟩
  · rw [t ns hl]
    intro v F' H' e r
    simp only [Rep] at r
    subst r
    exact q H'
theorem cx_end {P : Program} {w : World} (H : Hp) (s : Shared) (e : Value) (s' : Shared) (h : L2.CX P w [] H s (fun _ _ _ => False) e s') : False := by
  obtain ⟨_, _, _, _, _, _, _, _, _, _, _, _, z⟩ := h
  exact z
end RT

/-! enumerate of a tuple, after the pattern of the hand layer's enumerate of a list -/
namespace RT
open PySem
open Sem (wp)
open AutoSeq1 (wpAny_loadPart')
theorem meets_enumerate_newT (l : Addr) (items : Array Value) (n : Nat) (dct : Option Addr) (sl : Array (Option Value)) :
    Meets (Builtin.«enumerate.__new__» ⟨[.type "enumerate", .ref l], []⟩) (fun _ R s => s.heap.get? l = some { cls := .type "tuple", dict := dct, data := .seq items n, slots := sl } ∧
      R (.ok (.ret (.ref (s.heap.push { cls := .type "tuple_iterator", data := .fields #[.ref l, .int 0 0] }).objs.size)))
        { s with heap := (s.heap.push { cls := .type "tuple_iterator", data := .fields #[.ref l, .int 0 0] }).push { cls := .type "enumerate", data := .fields #[.none, .bool false, .ref s.heap.objs.size, rawInt 0, .none, .none] } }) :=
  .of_wp fun prog w A R s h => by
    obtain ⟨hp, g, d, tk, os⟩ := s; obtain ⟨hl, h⟩ := h
    have hsub := sub_enumerate
    have hL : Heap.IsTuple (Shared.heap ⟨hp, g, d, tk, os⟩) l items := ⟨_, hl, rfl, n, rfl⟩
    wp_walk using wpAny_loadPart' hl
    refine wpAny_stack_any fun st => wpAny_pure ?_
    split
    · rename_i c _ _ _ _ _
      cases (c == Value.type "enumerate")
      · wp_walk using wpAny_loadPart' hl, wpAny_pyIter_tuple hL
        exact ⟨_, rfl, h⟩
      · wp_walk using wpAny_loadPart' hl, wpAny_pyIter_tuple hL
        exact ⟨_, rfl, h⟩
    · wp_walk using wpAny_loadPart' hl, wpAny_pyIter_tuple hL
      exact ⟨_, rfl, h⟩
section
variable {prog : Program} {w : World} {A : Around} {E : Value → Shared → Prop} {s : Shared}
theorem call_enumerate_tuple {l : Addr} {items : Array Value} {Q : Value → Shared → Prop} (hL : s.heap.IsTuple l items)
    (h : ∀ h', IsEnum h' (s.heap.objs.size + 1) s.heap.objs.size 0 .none → h'.IsTupleIter s.heap.objs.size l 0 → h'.objs.size = s.heap.objs.size + 2 →
      (∀ b o, s.heap.get? b = some o → h'.get? b = some o) → Q (.ref (s.heap.objs.size + 1)) { s with heap := h' }) :
    wpAny (model prog w) A (call (.type "enumerate") [.ref l]) Q E s := by
  obtain ⟨⟨c, dct, dt, sl⟩, hl, hc, n, hd⟩ := hL
  replace hc : c = .type "tuple" := hc
  replace hd : dt = .seq items n := hd
  subst hc hd
  refine callType_new F.called_enumerate (by decide) (F.typeCall_enumerate_1 _) (F.newCall_enumerate_1 _) (fun obj => F.args_object_init_2 obj _) F.entry_enumerate_new
    (meets_enumerate_newT l items n dct sl) ⟨hl, ?_⟩
  have hz : (s.heap.push { cls := .type "tuple_iterator", data := .fields #[.ref l, .int 0 0] }).objs.size = s.heap.objs.size + 1 := Heap.size_push ..
  show _ ∧ _
  rw [hz]
  have he : IsEnum ((s.heap.push { cls := .type "tuple_iterator", data := .fields #[.ref l, .int 0 0] }).push
      { cls := .type "enumerate", data := .fields #[.none, .bool false, .ref s.heap.objs.size, rawInt 0, .none, .none] }) (s.heap.objs.size + 1) s.heap.objs.size 0 .none := by
    have := Heap.get?_push_size (s.heap.push { cls := .type "tuple_iterator", data := .fields #[.ref l, .int 0 0] })
      (o := { cls := .type "enumerate", data := .fields #[.none, .bool false, .ref s.heap.objs.size, rawInt 0, .none, .none] }) rfl
    rw [hz] at this; exact this
  refine ⟨⟨_, he, rfl⟩, h _ he ⟨_, Heap.get?_push_of_some _ (Heap.get?_push_size _ rfl), rfl, rfl⟩ (by rw [Heap.size_push, hz]) fun b o x => Heap.get?_push_of_some _ (Heap.get?_push_of_some _ x)⟩
end
theorem drawsTuple {prog : Program} {w : World} {A : Around} (hh : A.handled = none) (it l : Addr) (hne : l ≠ it) (items : Array Value) :
    Draws prog w A it [it, l] items.size (fun i v => items[i]? = some v) (fun i h => h.IsTupleIter it l i ∧ h.IsTuple l items) where
  live := fun _ _ st => let ⟨o, ho, _⟩ := st.1; ⟨o, ho⟩
  frame := fun _ _ _ st hk => ⟨st.1.at fun o e => hk it (by simp) o e, let ⟨o, e, r⟩ := st.2; ⟨o, hk l (by simp) o e, r⟩⟩
  item := fun i s Q E hi st hQ => by
    refine RZ.nextOf_tuple_item st.1 st.2 (x := items[i]) (by simp [hi]) fun h' hit' hs' => ?_
    exact hQ _ h' s.toks (by simp [hi]) ⟨hit', let ⟨o, e, r⟩ := st.2; ⟨o, (hs'.2 l hne).trans e, r⟩⟩ hs'
  done := fun s Q E st hE => RZ.nextOf_tuple_end hh st.1 st.2 (by simp) hE
end RT
namespace RT
open PySem PySem.Spec PyProof.Rows L2
def IteT (K : PySem.W.Frag) (a : Addr) : It :=
  ⟨fun i H => ∃ (xs : List V) (x : V), SqT K H a xs ∧ xs[i]? = some x, fun i H v H' => ∃ T x, v = .ref T ∧ H T = none ∧ H' = upd H T (.tup [.int (i : Nat), x]) ∧ ∀ xs, SqT K H a xs → xs[i]? = some x, fun i H => ∃ xs : List V, SqT K H a xs ∧ xs.length = i⟩
theorem turn_enumT {P : Program} {w : World} {K : PySem.W.Frag} {elts : List Expr} {kk : Nat} {tpos : Pos} (a e it : Addr) :
    Turn P w K (.Tuple elts kk tpos) (IteT K a) [e, it] e (fun i h => (∃ old, IsEnum h e it ((i : Nat) : Int) old) ∧ h.IsTupleIter it a i ∧ e ≠ it) where
  mem := by simp
  obj := fun i h st b hb => by
    obtain ⟨⟨old, he⟩, ⟨o, ho, hc, hd⟩, _⟩ := st
    have e' : b = e ∨ b = it := by simpa using hb
    rcases e' with z | z
    · rw [z]; exact ⟨_, he, fun v q => nomatch q⟩
    · rw [z]; exact ⟨o, ho, fun v q => by rw [hd] at q; cases q⟩
  keep := fun i h h' st k => let ⟨⟨old, he⟩, hi, hne⟩ := st; ⟨⟨old, k e (by simp) _ he⟩, hi.at fun o q => k it (by simp) o q, hne⟩
  item := by
    intro X hP hw hK hc i pins s σ H E I hf st hg
    subst hP hw hK
    obtain ⟨⟨old, he⟩, hit, hne⟩ := st
    obtain ⟨xs, x, hq, hx⟩ := hg
    obtain ⟨its, rv, p, hz⟩ := I.tuple hq
    obtain ⟨u, hu, ru⟩ := rv.get hx
    have hel : e < s.heap.objs.size := Heap.lt_size he
    have hil : it < s.heap.objs.size := by obtain ⟨_, q, _⟩ := hit; exact Heap.lt_size q
    have hiu : i < its.toArray.size := by rw [List.size_toArray]; exact (List.getElem?_eq_some_iff.mp hu).1
    have nea : e ≠ a := fun z => by
      obtain ⟨o, h1, h2, _⟩ := p
      rw [← z, he] at h1
      cases h1
      exact absurd (Value.type.inj h2) (by decide)
    have nia : a ≠ it := fun z => by
      obtain ⟨o, h1, h2, _⟩ := p
      obtain ⟨o', g1, g2, _⟩ := hit
      rw [z, g1] at h1
      cases h1
      rw [g2] at h2
      exact absurd (Value.type.inj h2) (by decide)
    refine wpAny_pyNext_enum_itemD (drawsTuple (show X.A.in1.handled = none from I.ok.hd hc) it a nia its.toArray) he ⟨hit, p⟩ hiu hne (by simp [hne, nea]) fun x' h' tk hPx ho hst' hT hsz hk => ?_
    have ex : x' = u := by
      have h1 : its.toArray[i]? = some x' := hPx
      have h2 : its.toArray[i]? = some u := by simpa using hu
      rw [h2] at h1
      exact (Option.some.inj h1).symm
    subst ex
    refine ⟨_, rfl, wpAny_letOwnedTupleGo_enum (s := { s with heap := h', toks := tk + 1 }) ho fun h'' he' sb => ?_⟩
    have hT2 : h''.get? s.heap.objs.size = some { cls := .type "tuple", data := .seq #[.int i tk, x'] } := (sb.2 _ (Nat.ne_of_gt hel)).trans hT
    have new : ObjOk X.prog X.w (upd H s.heap.objs.size (.tup [.int (i : Nat), x])) h'' s.heap.objs.size (.tup [.int (i : Nat), x]) :=
      ⟨by show 2 ≤ sizeLine; decide, [.int i tk, x'], .cons ⟨_, rfl⟩ (.cons ru .nil), ⟨_, hT2, rfl, _, rfl⟩⟩
    have I1 : Inv X pins σ (upd H s.heap.objs.size (.tup [.int (i : Nat), x])) { s with heap := h'', toks := tk + 1 } :=
      I.turnedNew (ch := [e, it]) (fun b ob hb q => (sb.2 b (fun z => hb (by simp [z]))).trans (hk b ob (fun z => hb (by simp [z])) (fun z => hb (by simp [z])) q)) hf (Nat.le_refl _) new
    refine ⟨.ref s.heap.objs.size, _, I1, rfl, ⟨_, x, rfl, I.hok.fresh (Nat.le_refl _), rfl, fun ys hy => by rw [I.tuple_inj hy hq]; exact hx⟩, ⟨⟨x', ?_⟩, hst'.1.at fun o q => (sb.2 it (Ne.symm hne)).trans q, hne⟩, fun b hb => ?_⟩
    · have e1 : ((i + 1 : Nat) : Int) = (i : Int) + 1 := by omega
      rw [e1]; exact he'
    · have hb' : b < s.heap.objs.size := by
        have e' : b = e ∨ b = it := by simpa using hb
        rcases e' with z | z
        · rw [z]; exact hel
        · rw [z]; exact hil
      rw [upd_ne (Nat.ne_of_lt hb')]
      exact (hf b hb).1
  done := by
    intro X hP hw hK hc i pins s σ H E I hf st hg
    subst hP hw hK
    obtain ⟨⟨old, he⟩, hit, hne⟩ := st
    obtain ⟨xs, hq, hx⟩ := hg
    obtain ⟨its, rv, p, hz⟩ := I.tuple hq
    obtain ⟨f0, f1, f2, f3, f4, f5⟩ := hf it (by simp)
    have hl := rv.length
    have nia : a ≠ it := fun z => by
      obtain ⟨o, h1, h2, _⟩ := p
      obtain ⟨o', g1, g2, _⟩ := hit
      rw [z, g1] at h1
      cases h1
      rw [g2] at h2
      exact absurd (Value.type.inj h2) (by decide)
    have ei : i = its.toArray.size := by rw [List.size_toArray, ← hl, hx]
    subst ei
    exact wpAny_pyNext_enum_endD (drawsTuple (show X.A.in1.handled = none from I.ok.hd hc) it a nia its.toArray) he ⟨hit, p⟩ fun h' eb => ⟨rfl, I.turned (t' := s.toks) (fun b o hb q => eb b o hb q) f0 f1 f3 f4 f5⟩
  self := fun A i s Q E st h => let ⟨⟨_, he⟩, _⟩ := st; wpAny_pyIter_enum he h
def iEnumT (K : PySem.W.Frag) (ta : TA) : TI := fun σ H R => ta σ H fun vs H1 => ∃ a xs, vs = [.ref a] ∧ SqT K H1 a xs ∧ R (IteT K a) H1
theorem pi_enumT {X : Cx} {e : Expr} {ta : TA} {p pos tpos : Pos} {elts : List Expr} {kk : Nat} (hg : Gl X "enumerate") (hm : X.mg "enumerate" = none) (ha : PA X [e] ta) (hs : starEach [e] X.env = [(false, eval e X.env)] := by rfl) :
    PI X (.Tuple elts kk tpos) (.Call (.Name "enumerate" p) [e] [] pos) (iEnumT X.K ta) := by
  refine ⟨fun pins s σ H R I h => ?_⟩
  refine Call_ (ld_blt I hg hm boot_enumerate (PyProof.Rows.callWith_type1 (thn (ha.run pos pins s σ H _ I h) fun us s1 ⟨vs, H1, I1, r1, q1⟩ => ?_) hs rfl))
  obtain ⟨a, xs, ex, hq, q⟩ := q1
  subst ex
  cases r1 with
  | cons r rr =>
    cases rr
    cases r
    obtain ⟨its, rv, p', hz⟩ := I1.tuple hq
    refine call_enumerate_tuple p' fun h' he hit hsz hk => wpAny_pyIter_enum he ?_
    have I2 : Inv X pins σ H1 { s1 with heap := h' } := I1.kept (t' := s1.toks) hk
    refine ⟨s1.heap.objs.size + 1, [s1.heap.objs.size + 1, s1.heap.objs.size], _, _, H1, rfl, I2, turn_enumT a (s1.heap.objs.size + 1) s1.heap.objs.size, ⟨⟨.none, he⟩, hit, Nat.succ_ne_self _⟩, fun b hb => ?_, q⟩
    have e' : b = s1.heap.objs.size + 1 ∨ b = s1.heap.objs.size := by simpa using hb
    have hle : s1.heap.objs.size ≤ b := by
      rcases e' with z | z
      · rw [z]; exact Nat.le_add_right _ _
      · rw [z]; exact Nat.le_refl _
    exact I1.fpOk hle (I1.hok.fresh hle)
theorem walk_enumT {K : PySem.W.Frag} {a : Addr} {xs : List V} : Walk (IteT K a) xs.length (fun H => SqT K H a xs) (YPair (fun i => some (.int (i : Nat))) (fun i => xs[i]?)) := by
  refine ⟨fun i _ hi q => ⟨xs, xs[i], q, by simp [hi]⟩, fun _ q => ⟨xs, q, rfl⟩, fun i H v H' _ q y => ?_⟩
  obtain ⟨T, x, h1, h2, h3, h4⟩ := y
  exact ⟨T, .int (i : Nat), x, h1, h2, h3, rfl, h4 xs q⟩
end RT

namespace RT
open PySem PySem.Spec PyProof.Rows L2
/-! ### enumerate, zip -/
/-- pairs: a new tuple each turn -/
theorem ItD.pair2 {K : PySem.W.Frag} {mg : Str → Option Value} {F : Hp} {J : It} {n : Nat} {G : Hp → Prop} {p q : Nat → Option V} {as bs : List D} (w : Walk J n G (YPair p q)) (hG : ∀ F1 H1, Same F F1 → Same F1 H1 → G H1) (hn : n = min as.length bs.length) (z : n ≤ sizeLine)
    (pa : ∀ i d v, as[i]? = some d → p i = some v → Rep K mg F d v) (pb : ∀ i d v, bs[i]? = some d → q i = some v → Rep K mg F d v) :
    ItD K mg J F (zipD as bs) := by
  have hl : (zipD as bs).length = n := by rw [zipD, List.length_map, List.length_zip, hn]
  refine ⟨by rw [hl]; exact z, fun i F1 H1 s1 s2 => ⟨fun d hd => ?_, fun e => ?_⟩⟩
  · have hi : i < n := by rw [← hl]; exact (List.getElem?_eq_some_iff.mp hd).1
    have g := hG F1 H1 s1 s2
    refine ⟨w.goes i H1 hi g, fun x H' y => ?_⟩
    obtain ⟨T, u, v, rfl, nT, rfl, e1, e2⟩ := w.yields i H1 x H' hi g y
    have ez : (as.zip bs)[i]? = some (as[i]'(by omega), bs[i]'(by omega)) := List.getElem?_zip_eq_some.mpr ⟨List.getElem?_eq_getElem (show i < as.length by omega), List.getElem?_eq_getElem (show i < bs.length by omega)⟩
    rw [zipD, List.getElem?_map, ez] at hd
    cases hd
    have ra := pa i _ u (List.getElem?_eq_getElem (show i < as.length by omega)) e1
    have rb := pb i _ v (List.getElem?_eq_getElem (show i < bs.length by omega)) e2
    refine ⟨upd F1 T (.tup [u, v]), Ext.new s2 nT, ?_⟩
    have m := s1.trans (same_upd (o := .tup [u, v]) (s2.free nT))
    simp only [Rep, RepL]
    exact ⟨T, [u, v], rfl, upd_same, ⟨u, [v], rfl, Rep.mono m _ _ ra, v, [], rfl, Rep.mono m _ _ rb, rfl⟩, by show 2 ≤ sizeLine; decide⟩
  · rw [hl] at e
    rw [e]
    exact w.stops H1 (hG F1 H1 s1 s2)
theorem walk_zipT {K : PySem.W.Frag} {a b : Addr} {xs ys : List V} {n : Nat} (hn : n = min xs.length ys.length) : Walk (RZ.ItzT K a b) n (fun H => SqT K H a xs ∧ SqT K H b ys) (YPair (fun i => xs[i]?) (fun i => ys[i]?)) := by
  subst hn
  refine ⟨fun i _ hi q => ?_, fun _ q => ⟨xs, ys, q.1, q.2, by omega⟩, fun i H v H' _ q y => ?_⟩
  · have h1 : i < xs.length := by omega
    have h2 : i < ys.length := by omega
    exact ⟨xs, ys, xs[i], ys[i], q.1, q.2, by simp [h1], by simp [h2]⟩
  · obtain ⟨T, x, z, h1, h2, h3, h4, h5⟩ := y
    exact ⟨T, x, z, h1, h2, h3, h4 xs q.1, h5 ys q.2⟩
section
variable {X : Cx} {O : List Nat} {W : WX} {f g : EF} {e a b : Expr} {pos p tpos : Pos} {elts : List Expr} {kk : Nat}
theorem a1_inv {ρ : Env} {ds : List D} (h : aC f aN ρ = .ok ds) : ∃ d, ds = [d] := by
  unfold aC aN at h
  cases hf : f ρ with
  | ok d => rw [hf] at h; cases h; exact ⟨d, rfl⟩
  | err _ => rw [hf] at h; cases h
  | stuck => rw [hf] at h; cases h
theorem a2_inv {ρ : Env} {ds : List D} (h : aC f (aC g aN) ρ = .ok ds) : ∃ d e, ds = [d, e] := by
  unfold aC aN at h
  cases hf : f ρ with
  | ok d =>
    rw [hf] at h
    simp only [R.bind_ok] at h
    cases hg : g ρ with
    | ok e => rw [hg] at h; cases h; exact ⟨d, e, rfl⟩
    | err _ => rw [hg] at h; cases h
    | stuck => rw [hg] at h; cases h
  | err _ => rw [hf] at h; cases h
  | stuck => rw [hf] at h; cases h
theorem upto_rep {K : PySem.W.Frag} {mg : Str → Option Value} {F : Hp} {n i : Nat} {d : D} {v : V} (h : (upto 0 n)[i]? = some d) (e : some (L2.V.int (i : Nat)) = some v) : Rep K mg F d v := by
  obtain ⟨_, rfl⟩ := upto_get 0 n i d h
  cases e
  simp [Rep]
theorem pid_enum (hg : Gl X "enumerate") (hm : X.mg "enumerate" = none) (ha : PD X .rep O W f a) (hs : starEach [a] X.env = [(false, eval a X.env)] := by rfl) :
    PID X O W (.Tuple elts kk tpos) (sA enumA (aC f aN)) (.Call (.Name "enumerate" p) [a] [] pos) := by
  have hA : PAD X .rep O W (aC f aN) [a] := pad_cons ha pad_nil hs
  refine ⟨fun pins s σ H Q I hw => ?_⟩
  obtain ⟨ρ, F, sr, q⟩ := hw
  have hq : GoalI X.K X.mg W σ F H ((aC f aN ρ).bind enumA) Q := q
  cases hf : f ρ with
  | ok d =>
    have ed : aC f aN ρ = .ok [d] := by unfold aC aN; rw [hf]; rfl
    rw [ed] at hq
    cases d with
    | lst ds =>
      have hq : ∀ J F' H', Ext F H F' H' → ItD X.K X.mg J F' (zipD (upto 0 ds.length) ds) → Q J H' := hq
      refine (pi_enum hg hm hA hs).run pins s σ H Q I ⟨ρ, F, sr, ?_⟩
      rw [ed]
      intro vs F' H' ex hv
      have hv' : RepL X.K X.mg F' [.lst ds] vs := hv
      simp only [RepL] at hv'
      obtain ⟨v, _, rfl, r1, rfl⟩ := hv'
      simp only [Rep] at r1
      obtain ⟨a, us, rfl, h1, h2, h3⟩ := r1
      refine ⟨a, us, rfl, SqL.of (ex.fh _ _ h1), hq _ F' H' ex (ItD.pair2 walk_enum (fun F1 H1 s1 s2 => SqL.of (s2 _ _ (s1 _ _ h1))) ?_ ?_ (fun i d v => upto_rep) (fun i d v hd hv => ?_))⟩
      · rw [upto_len, Nat.min_self, h2.len]
      · have := h2.len; omega
      · obtain ⟨v', e1, e2⟩ := h2.get hd
        rw [hv] at e1
        cases e1
        exact e2
    | tup ds =>
      have hq : ∀ J F' H', Ext F H F' H' → ItD X.K X.mg J F' (zipD (upto 0 ds.length) ds) → Q J H' := hq
      refine (pi_enumT hg hm hA hs).run pins s σ H Q I ⟨ρ, F, sr, ?_⟩
      rw [ed]
      intro vs F' H' ex hv
      have hv' : RepL X.K X.mg F' [.tup ds] vs := hv
      simp only [RepL] at hv'
      obtain ⟨v, _, rfl, r1, rfl⟩ := hv'
      simp only [Rep] at r1
      obtain ⟨a, us, rfl, h1, h2, h3⟩ := r1
      refine ⟨a, us, rfl, SqT.of (ex.fh _ _ h1), hq _ F' H' ex (ItD.pair2 walk_enumT (fun F1 H1 s1 s2 => SqT.of (s2 _ _ (s1 _ _ h1))) ?_ ?_ (fun i d v => upto_rep) (fun i d v hd hv => ?_))⟩
      · rw [upto_len, Nat.min_self, h2.len]
      · have := h2.len; omega
      · obtain ⟨v', e1, e2⟩ := h2.get hd
        rw [hv] at e1
        cases e1
        exact e2
    | _ => exact hq.elim
  | err c =>
    have ed : aC f aN ρ = .err c := by unfold aC aN; rw [hf]; rfl
    rw [ed] at hq
    refine (pi_enum hg hm hA hs).run pins s σ H Q I ⟨ρ, F, sr, ?_⟩
    rw [ed]
    exact hq
  | stuck =>
    have ed : aC f aN ρ = .stuck := by unfold aC aN; rw [hf]; rfl
    rw [ed] at hq
    exact hq.elim
theorem pid_zip (hg : Gl X "zip") (hm : X.mg "zip" = none) (ha : PD X .rep O W f a) (hb : PD X .rep O W g b) (hs : starEach [a, b] X.env = (false, eval a X.env) :: starEach [b] X.env := by rfl) (hs2 : starEach [b] X.env = [(false, eval b X.env)] := by rfl) (hpl : (backTo pos (starEach [b] X.env)).any (·.1) = false := by rfl) :
    PID X O W (.Tuple elts kk tpos) (sA zipA (aC f (aC g aN))) (.Call (.Name "zip" p) [a, b] [] pos) := by
  have hA : PAD X .rep O W (aC f (aC g aN)) [a, b] := pad_cons ha (pad_cons hb pad_nil hs2) (by rw [hs, hs2])
  refine PI.imp (RZ.pi_zipA hg hm hA hs hpl) fun σ H Q ⟨ρ, F, sr, q⟩ => ⟨ρ, F, sr, GoalI.bindA q fun ds vs F1 H1 ed ex hv hq => ?_⟩
  have hq : GoalI X.K X.mg W σ F1 H1 (zipA ds) Q := hq
  obtain ⟨d, d', rfl⟩ := a2_inv ed
  have hv' : RepL X.K X.mg F1 [d, d'] vs := hv
  simp only [RepL] at hv'
  obtain ⟨v, _, rfl, r1, v2, _, rfl, r2, rfl⟩ := hv'
  have rr : ∀ {ds : List D} {us : List V} {i : Nat} {d : D} {v : V}, RepL X.K X.mg F1 ds us → ds[i]? = some d → us[i]? = some v → Rep X.K X.mg F1 d v := fun h2 hd hv => by
    obtain ⟨v', e1, e2⟩ := h2.get hd
    rw [hv] at e1
    cases e1
    exact e2
  cases d with
  | lst ds =>
    cases d' with
    | lst es =>
      have hq : ∀ J F' H', Ext F1 H1 F' H' → ItD X.K X.mg J F' (zipD ds es) → Q J H' := hq
      simp only [Rep] at r1 r2
      obtain ⟨a, us, rfl, h1, h2, h3⟩ := r1
      obtain ⟨b, ws, rfl, g1, g2, g3⟩ := r2
      exact ⟨a, b, us, ws, rfl, .inl ⟨SqL.of (ex.fh _ _ h1), SqL.of (ex.fh _ _ g1), hq _ F1 H1 (.refl ex.fh) (ItD.pair2 (walk_zip rfl) (fun F2 H2 s1 s2 => ⟨SqL.of (s2 _ _ (s1 _ _ h1)), SqL.of (s2 _ _ (s1 _ _ g1))⟩) (by rw [h2.len, g2.len])
        (by have := h2.len; have := Nat.min_le_left us.length ws.length; omega) (fun i d v => rr h2) (fun i d v => rr g2))⟩⟩
    | _ => exact hq.elim
  | tup ds =>
    cases d' with
    | tup es =>
      have hq : ∀ J F' H', Ext F1 H1 F' H' → ItD X.K X.mg J F' (zipD ds es) → Q J H' := hq
      simp only [Rep] at r1 r2
      obtain ⟨a, us, rfl, h1, h2, h3⟩ := r1
      obtain ⟨b, ws, rfl, g1, g2, g3⟩ := r2
      exact ⟨a, b, us, ws, rfl, .inr ⟨SqT.of (ex.fh _ _ h1), SqT.of (ex.fh _ _ g1), hq _ F1 H1 (.refl ex.fh) (ItD.pair2 (walk_zipT rfl) (fun F2 H2 s1 s2 => ⟨SqT.of (s2 _ _ (s1 _ _ h1)), SqT.of (s2 _ _ (s1 _ _ g1))⟩) (by rw [h2.len, g2.len])
        (by have := h2.len; have := Nat.min_le_left us.length ws.length; omega) (fun i d v => rr h2) (fun i d v => rr g2))⟩⟩
    | _ => exact hq.elim
  | _ => cases d' <;> exact hq.elim
end
end RT

namespace RT
open PySem PySem.Spec PyProof.Rows L2
/-! ### slices -/
section
variable {K : PySem.W.Frag} {mg : Str → Option Value} {W : WX} {σ : L2.St} {F H F1 H1 : Hp}
theorem cutAt_eq (n d : Nat) (o : Option Int) : D.cutAt n d o = HT.sIx n d o := by
  cases o with
  | none => rfl
  | some v =>
    show (if 0 ≤ v then min n v.toNat else ((n : Int) + v).toNat) = (if v < 0 then (v + (n : Int)).toNat else min v.toNat n)
    by_cases h : v < 0
    · rw [if_neg (by omega), if_pos h, Int.add_comm]
    · rw [if_pos (by omega), if_neg h, Nat.min_comm]
theorem RepL.drop' : ∀ (k : Nat) {ds : List D} {vs : List V}, RepL K mg F ds vs → RepL K mg F (ds.drop k) (vs.drop k)
  | 0, _, _, h => h
  | k + 1, [], vs, h => by simp only [RepL] at h; subst h; simp [RepL]
  | k + 1, d :: ds, vs, h => by
    simp only [RepL] at h
    obtain ⟨v, vs', rfl, _, h⟩ := h
    exact RepL.drop' k h
theorem RepL.take' : ∀ (k : Nat) {ds : List D} {vs : List V}, RepL K mg F ds vs → RepL K mg F (ds.take k) (vs.take k)
  | 0, _, _, _ => by simp [RepL]
  | k + 1, [], vs, h => by simp only [RepL] at h; subst h; simp [RepL]
  | k + 1, d :: ds, vs, h => by
    simp only [RepL] at h
    obtain ⟨v, vs', rfl, h1, h⟩ := h
    simp only [List.take_succ_cons, RepL]
    exact ⟨v, _, rfl, h1, RepL.take' k h⟩
theorem RepL.cut {ds : List D} {vs : List V} (h : RepL K mg F ds vs) (lo hi : Option Int) : RepL K mg F (D.cutL ds lo hi) (cutV vs lo hi) := by
  unfold D.cutL cutV
  rw [h.len, cutAt_eq, cutAt_eq]
  exact RepL.take' _ (RepL.drop' _ h)
theorem cutL_len {α : Type} (xs : List α) (lo hi : Option Int) : (D.cutL xs lo hi).length ≤ xs.length := by
  unfold D.cutL
  rw [List.length_take, List.length_drop]
  omega
def GoalO (mg : Str → Option Value) (W : WX) (σ : L2.St) (F H : Hp) (r : R (Option Int)) (Q : Option Int → Hp → Prop) : Prop :=
  match r with
  | .ok b => ∀ F' H', Ext F H F' H' → Q b H'
  | .err c => ∀ F' H', Ext F H F' H' → ∀ C, mg c = some (.ref C) → W (.ref C) none σ H'
  | .stuck => False
theorem Goal.bindO {m : Md} {r : R (Option Int)} {k : Option Int → R D} {Q : VK} {Q1 : Option Int → Hp → Prop} (h : Goal K mg m W σ F H (r.bind k) Q)
    (c : ∀ b F1 H1, r = .ok b → Ext F H F1 H1 → Goal K mg m W σ F1 H1 (k b) Q → Q1 b H1) : GoalO mg W σ F H r Q1 := by
  cases r with
  | ok d => exact fun F' H' e => c d F' H' rfl e (Goal.ext (r := k d) h e)
  | err c => exact h
  | stuck => exact h
theorem GoalO.bind {m1 : Md} {r : R D} {k : D → R (Option Int)} {Q : Option Int → Hp → Prop} {Q1 : VK} (h : GoalO mg W σ F H (r.bind k) Q)
    (c : ∀ d v F1 H1, r = .ok d → Ext F H F1 H1 → Val K mg m1 H F1 H1 d v → (∀ Q', GoalO mg W σ F1 H1 (k d) Q' → True) → GoalO mg W σ F1 H1 (k d) Q → Q1 v H1) : Goal K mg m1 W σ F H r Q1 := by
  cases r with
  | ok d =>
    refine fun v F' H' e q => c d v F' H' rfl e q (fun _ _ => trivial) ?_
    have h' : GoalO mg W σ F H (k d) Q := h
    cases hk : k d with
    | ok o => rw [hk] at h'; exact fun F2 H2 e2 => h' F2 H2 (e.trans e2)
    | err c => rw [hk] at h'; exact fun F2 H2 e2 => h' F2 H2 (e.trans e2)
    | stuck => rw [hk] at h'; exact h'
  | err c => exact h
  | stuck => exact h
end
def tO (K : PySem.W.Frag) (mg : Str → Option Value) (O : List Nat) (W : WX) (f : OF) : TO := fun σ H Q => ∃ ρ F, SR K mg O ρ F σ H ∧ GoalO mg W σ F H (f ρ) Q
abbrev POD (X : Cx) (O : List Nat) (W : WX) (f : OF) (e : Option Expr) : Prop := PO X e (tO X.K X.mg O W f)
theorem PO.imp {X : Cx} {e : Option Expr} {t t' : TO} (h : PO X e t) (i : ∀ σ H Q, t' σ H Q → t σ H Q) : PO X e t' := ⟨fun pins s σ H Q I q => h.run pins s σ H Q I (i σ H Q q)⟩
section
variable {X : Cx} {O : List Nat} {W : WX} {f g : EF} {l u : OF} {e a b : Expr} {lo hi : Option Expr} {pos p p2 apos cpos : Pos}
theorem pod_none : POD X O W oN none := PO.imp po_none fun σ H Q ⟨ρ, F, s, q⟩ => q F H (.refl s.sub)
theorem pod_some (h : PD X .look O W f e) : POD X O W (oS f) (some e) := PO.imp (po_some h) fun σ H Q ⟨ρ, F, s, q⟩ => ⟨ρ, F, s, GoalO.bind q fun d v F1 H1 _ e1 k _ q => by
  cases d with
  | int i =>
    cases Look.int (show Look X.K X.mg F1 H1 (.int i) v from k)
    exact ⟨i, rfl, q F1 H1 (.refl e1.fh)⟩
  | _ => exact q.elim⟩
theorem pd_slice (h : PD X .look O W f e) (hl : POD X O W l lo) (hu : POD X O W u hi) : PD X .fresh O W (eCut f l u) (.Subscript e (.Slice lo hi none p2) pos) :=
  PE.imp (pe_slice (sl_list.or sl_tupA) h hl hu) fun σ H Q ⟨ρ, F, s, q⟩ => ⟨ρ, F, s, Goal.bind q fun d x F1 H1 _ e1 k q1 => ⟨ρ, F1, s.ext e1, Goal.bindO q1 fun lo F2 H2 _ e2 q2 => ⟨ρ, F2, (s.ext e1).ext e2, Goal.bindO q2 fun hi F3 H3 _ e3 q3 => by
    have k' : Look X.K X.mg F3 H3 d x := (Look.ext (show Look X.K X.mg F1 H1 d x from k) e2).ext e3
    cases d with
    | lst ds =>
      obtain ⟨a, vs, rfl, h1, h2, h3⟩ := k'.lst
      exact .inl ⟨a, vs, rfl, SqL.of h1, gLst e3.fh (h2.cut lo hi) (Nat.le_trans (cutL_len ds lo hi) h3) q3⟩
    | tup ds =>
      have k'' := k'
      obtain ⟨a, vs, rfl, h1, h2, h3⟩ := k'.tup e3.fh
      refine .inr ⟨a, vs, rfl, SqT.of h1, fun hw => ?_, fun _ => gTup e3.fh (h2.cut lo hi) (Nat.le_trans (cutL_len ds lo hi) h3) q3⟩
      refine q3 (.ref a) F3 H3 (.refl e3.fh) ?_
      have hc : D.cutL ds lo hi = ds := by
        unfold D.cutL
        rw [cutAt_eq, cutAt_eq, ← h2.len, hw.1, hw.2, Nat.sub_zero, h2.len, List.drop_zero, List.take_length]
      rw [hc]
      exact k''
    | _ => exact q3.elim⟩⟩⟩
/-! ### sorted -/
theorem Vals.map_refs : ∀ {out : List Value} {ls : List (List Int)} {R' : Value → List Int → Prop}, PySem.W.EachIs R' out ls → (∀ v l, R' v l → ∃ a, v = .ref a) → Vals (out.map bkV) out
  | _, _, _, .nil, _ => .nil
  | _, _, _, .cons h t, q => by
    obtain ⟨a, rfl⟩ := q _ _ h
    exact .cons (show RelV (.ref a) (.ref a) from rfl) (Vals.map_refs t q)
theorem rep_tups {K : PySem.W.Frag} {mg : Str → Option Value} {F : Hp} : ∀ {out : List Value} {ls : List (List Int)}, PySem.W.EachIs (fun v l => ∃ a, v = .ref a ∧ Rep K mg F (D.tupI l) (.ref a)) out ls → RepL K mg F (ls.map D.tupI) (out.map bkV)
  | _, _, .nil => by simp [RepL]
  | _, _, .cons ⟨a, e, h⟩ t => by
    subst e
    simp only [List.map_cons, RepL]
    exact ⟨.ref a, _, rfl, h, rep_tups t⟩
theorem intsOf_of : ∀ {xs : List D} {l : List Int}, D.intsOf xs = some l → xs = l.map .int
  | [], l, h => by cases h; rfl
  | d :: xs, l, h => by
    cases d with
    | int i =>
      simp only [D.intsOf, Option.map_eq_some_iff] at h
      obtain ⟨l', h1, rfl⟩ := h
      rw [intsOf_of h1, List.map_cons]
    | _ => cases h
theorem tupsOf_of : ∀ {xs : List D} {ls : List (List Int)}, D.tupsOf xs = some ls → xs = ls.map D.tupI ∧ ∀ l ∈ ls, l ≠ []
  | [], l, h => by cases h; exact ⟨rfl, fun _ h => nomatch h⟩
  | d :: xs, ls, h => by
    cases d with
    | tup ys =>
      cases ys with
      | nil => cases h
      | cons y ys =>
        simp only [D.tupsOf] at h
        split at h
        · rename_i l hl
          simp only [Option.map_eq_some_iff] at h
          obtain ⟨ls', h1, rfl⟩ := h
          obtain ⟨g1, g2⟩ := tupsOf_of h1
          have hy := intsOf_of hl
          refine ⟨by rw [List.map_cons, ← g1, D.tupI, ← hy], fun l' hl' => ?_⟩
          rcases List.mem_cons.mp hl' with e | hl'
          · subst e; intro e; rw [e] at hy; cases hy
          · exact g2 l' hl'
        · cases h
    | _ => cases h
theorem repL_ints {K : PySem.W.Frag} {mg : Str → Option Value} {F : Hp} : ∀ {l : List Int} {vs : List V}, RepL K mg F (l.map .int) vs → vs = l.map V.int
  | [], vs, h => by simpa [RepL] using h
  | i :: l, vs, h => by
    simp only [List.map_cons, RepL, Rep] at h
    obtain ⟨v, vs', rfl, rfl, h⟩ := h
    rw [repL_ints h, List.map_cons]
theorem repL_of_ints {K : PySem.W.Frag} {mg : Str → Option Value} {F : Hp} : ∀ {l : List Int}, RepL K mg F (l.map .int) (l.map V.int)
  | [] => by simp [RepL]
  | i :: l => by simp only [List.map_cons, RepL, Rep]; exact ⟨_, _, rfl, rfl, repL_of_ints⟩
theorem dp_ints {K : PySem.W.Frag} {H : Hp} : ∀ l : List Int, DpAll K H (l.map V.int) (l.map PyData.int)
  | [] => .nil
  | i :: l => .cons (.int i) (dp_ints l)
/-- each value stands for its tuple of ints -/
theorem each_tups {K : PySem.W.Frag} {mg : Str → Option Value} {F : Hp} : ∀ {ls : List (List Int)} {vs : List V} {us : List Value}, RepL K mg F (ls.map D.tupI) vs → Vals vs us → PySem.W.EachIs (fun v l => ∃ a, v = .ref a ∧ Rep K mg F (D.tupI l) (.ref a)) us ls
  | [], vs, us, h, r => by simp only [List.map_nil, RepL] at h; subst h; cases r; exact .nil
  | l :: ls, vs, us, h, r => by
    simp only [List.map_cons, RepL] at h
    obtain ⟨v, vs', rfl, h1, h⟩ := h
    cases r with
    | cons r1 r2 =>
      have h1' := h1
      simp only [D.tupI, Rep] at h1'
      obtain ⟨a, ws, rfl, _⟩ := h1'
      cases r1
      exact .cons ⟨a, rfl, h1⟩ (each_tups h r2)
/-- sorted(xs), xs a list of tuples of ints, none empty; F is a part of the heap that stays -/
def rSortD (K : PySem.W.Frag) (mg : Str → Option Value) : List V → Hp → VK → Prop := fun vs H Q => ∃ (a : Addr) (ys : List V) (ls : List (List Int)) (F : Hp), vs = [V.ref a] ∧ SqL K H a ys ∧ Same F H ∧ RepL K mg F (ls.map D.tupI) ys ∧ (∀ l ∈ ls, l ≠ []) ∧
  ∀ (zs : List V) (p : Addr), RepL K mg F ((ls.mergeSort D.upL).map D.tupI) zs → H p = none → Q (.ref p) (upd H p (.lst zs))
theorem tup_le (x : List Int → List Int) (hx : ∀ l, x l ≠ []) : PySem.W.dataLe false (fun b : List Int => PyData.tuple ((x b).map .int)) = fun p q => decide (x p ≤ x q) := by
  funext p q
  show (!PySem.W.dataLt (.tuple ((x q).map .int)) (.tuple ((x p).map .int))) = _
  rw [PySem.W.dataLt_tuple]
  show (!PySem.W.rowLt ((x q).map .int) ((x p).map .int)) = _
  rw [PySem.W.dataLt_ints]
  by_cases h : x q < x p
  · have h' : ¬ x p ≤ x q := fun g => g h
    simp [h, h']
  · have h' : x p ≤ x q := h
    simp [h, h']
theorem cr_sortD (hu : X.A.units + 64 < cLine) : CallR X (.builtin "sorted") (rSortD X.K X.mg) := by
  intro pins s σ H vs us Q I r h
  obtain ⟨a, ys, ls, F, rfl, hs, sF, hr, hne, q⟩ := h
  obtain ⟨its, rv, hl, hz⟩ := I.list hs
  rw [Vals.ref1 r]
  have e := each_tups hr rv
  have hlen : ls.length = ys.length := by rw [hr.len, List.length_map]
  have hE : ∀ l : List Int, ∃ x r, PyData.tuple ((if l = [] then [0] else l).map PyData.int) = .tuple (x :: r) := fun l => by
    by_cases hl : l = []
    · exact ⟨_, _, by rw [if_pos hl]; rfl⟩
    · obtain ⟨y, ys, rfl⟩ := List.exists_cons_of_ne_nil hl
      exact ⟨_, _, by rw [if_neg hl]; rfl⟩
  have hx : ∀ l : List Int, (if l = [] then [0] else l) ≠ [] := fun l => by
    by_cases hl : l = []
    · rw [if_pos hl]; simp
    · rw [if_neg hl]; exact hl
  have er : PySem.W.EachIs (fun v l => ∃ as, Reads s.heap v (PyData.tuple ((if l = [] then [0] else l).map PyData.int)) as) its ls := by
    have : ∀ {us : List Value} {ls : List (List Int)}, PySem.W.EachIs (fun v l => ∃ a, v = .ref a ∧ Rep X.K X.mg F (D.tupI l) (.ref a)) us ls → (∀ l ∈ ls, l ≠ []) → PySem.W.EachIs (fun v l => ∃ as, Reads s.heap v (PyData.tuple ((if l = [] then [0] else l).map PyData.int)) as) us ls := by
      intro us ls e
      induction e with
      | nil => exact fun _ => .nil
      | @cons v l us ls h1 h2 ih =>
        intro hn
        refine .cons ?_ (ih fun l hl => hn l (List.mem_cons_of_mem _ hl))
        obtain ⟨a, rfl, h1⟩ := h1
        simp only [D.tupI, Rep] at h1
        obtain ⟨a', ws, e, g1, g2, g3⟩ := h1
        cases e
        have := repL_ints g2
        subst this
        rw [if_neg (hn l (by simp))]
        exact Dp.reads I (.tuple (l.map PyData.int)) (.ref a) (.ref a) (.tup (SqT.of (sF _ _ g1)) (dp_ints l)) rfl
    exact this e hne
  refine PySem.W.sorted_data (enc := fun l : List Int => PyData.tuple ((if l = [] then [0] else l).map PyData.int)) hl.isList e er (PySem.W.AllAlike.of fun b b' => ?_) (PySem.W.Sortable.tuples hE) (by rw [hlen]; exact hz) (fun b _ => ?_) fun out ho eo => ?_
  · simp only [PySem.W.alike]
    exact PySem.W.alike_ints _ _
  · simp only [PyData.depth, PySem.W.depth_ints]
    omega
  · rw [tup_le (fun l => if l = [] then [0] else l) hx] at eo
    have es : ls.mergeSort (fun p q : List Int => decide ((if p = [] then [0] else p) ≤ (if q = [] then [0] else q))) = ls.mergeSort D.upL := by
      exact PySem.W.sort_congr fun a ha b hb => by rw [if_neg (hne a ha), if_neg (hne b hb)]; rfl
    rw [es] at eo
    have hrep := rep_tups eo
    obtain ⟨ep, he'⟩ := PyProof.Rows.sortedAll_at s.heap its out.toArray
    have hl2 : (out.map bkV).length ≤ sizeLine := by rw [List.length_map, ho, hlen]; exact hz
    exact ⟨.ref _, upd H (s.heap.objs.size + 1) (.lst (out.map bkV)), I.laid (t' := s.toks) (fun _ _ => PyProof.Rows.sortedAll_old) (Nat.le_succ _) ⟨hl2, out, ep, Vals.map_refs eo fun v l ⟨a, e, _⟩ => ⟨a, e⟩, he'⟩, rfl, q _ _ hrep (I.hok.fresh (Nat.le_succ _))⟩
/-- sorted(xs): whole numbers, tuples of whole numbers -/
theorem cr_sortA (hu : X.A.units + 64 < cLine) : CallR X (.builtin "sorted") (fun vs H Q => rSortedI X.K vs H Q ∨ rSortD X.K X.mg vs H Q) := by
  intro pins s σ H vs us Q I r h
  rcases h with h | h
  · exact cr_sortedI pins s σ H vs us Q I r h
  · exact cr_sortD hu pins s σ H vs us Q I r h
end
theorem upI_sorted (ns : List Int) : (ns.mergeSort D.upI).Pairwise (· ≤ ·) := by
  have h := List.pairwise_mergeSort (le := D.upI) (fun a b c h1 h2 => by simp only [D.upI, decide_eq_true_eq] at *; omega) (fun a b => by simp only [D.upI, Bool.or_eq_true, decide_eq_true_eq]; omega) ns
  exact h.imp fun h => by simpa [D.upI] using h
theorem sorted_one {a b : List Int} (p : a.Perm b) (ha : a.Pairwise (· ≤ ·)) (hb : b.Pairwise (· ≤ ·)) : a = b := p.eq_of_pairwise (fun _ _ _ _ h1 h2 => by omega) ha hb
theorem LookL.one' {K : PySem.W.Frag} {mg : Str → Option Value} {F H : Hp} {d : D} {vs : List V} (l : LookL K mg F H [d] vs) : ∃ v, vs = [v] ∧ Look K mg F H d v := by
  simp only [LookL] at l
  obtain ⟨v, _, rfl, k, rfl⟩ := l
  exact ⟨v, rfl, k⟩
theorem ok_sorted {K : PySem.W.Frag} {mg : Str → Option Value} : OkC K mg (fun vs H Q => rSortedI K vs H Q ∨ rSortD K mg vs H Q) D.bSorted := by
  intro W σ F H ds vs Q s l q
  match ds, l, q with
  | [d], l, q =>
    obtain ⟨v, rfl, k⟩ := l.one'
    cases d with
    | lst xs =>
      obtain ⟨a, vs, rfl, h1, h2, h3⟩ := k.lst
      simp only [D.bSorted] at q
      split at q
      · rename_i ns hn
        have e := intsOf_of hn
        subst e
        have e := repL_ints h2
        subst e
        refine .inl ⟨a, ns, rfl, SqL.of h1, fun ns' p hp hw hn => ?_⟩
        have e : ns' = ns.mergeSort D.upI := sorted_one (hp.trans (List.mergeSort_perm ns D.upI).symm) hw (upI_sorted ns)
        subst e
        exact gLst s repL_of_ints (by rw [List.length_map, (List.mergeSort_perm ns D.upI).length_eq]; simpa using h3) q p hn
      · split at q
        · rename_i ls hl
          obtain ⟨e, hne⟩ := tupsOf_of hl
          subst e
          refine .inr ⟨a, vs, ls, F, rfl, SqL.of h1, s, h2, hne, fun zs p hz hp => ?_⟩
          exact gLst s hz (by rw [List.length_map, (List.mergeSort_perm ls D.upL).length_eq]; simpa using h3) q p hp
        · exact q.elim
    | _ => exact q.elim
  | [], _, q => exact q.elim
  | d :: _ :: _, _, q => cases d <;> exact q.elim
/-! ### methods of lists -/
section
variable {K : PySem.W.Frag} {mg : Str → Option Value}
theorem list_ty {H : Hp} {a : Addr} {vs : List V} (h : H a = some (.lst vs)) : tyV K "list" (.ref a) H := .inl ⟨rfl, vs, SqL.of h⟩
end
section
variable {X : Cx} {O : List Nat} {W : WX} {f g : EF} {e a b : Expr} {pos p apos cpos : Pos}
/-- what a method of a list of whole numbers gives at one argument -/
def OkM (K : PySem.W.Frag) (mg : Str → Option Value) (r : V → List V → Hp → VK → Prop) (op : D → D → R D) : Prop :=
  ∀ (W : WX) (σ : L2.St) (F H : Hp) (ns : List Int) (a : Addr) (d : D) (y : V) (Q : VK), Same F H → H a = some (.lst (ns.map V.int)) → Look K mg F H d y → Goal K mg .fresh W σ F H (op (.lst (ns.map .int)) d) Q → r (.ref a) [y] H Q
theorem pd_meth {name : Str} {id : String} {r : V → List V → Hp → VK → Prop} {op : D → D → R D} (slot : Slot "list" name id) (hty : typeOf (.builtin id) = pure (.type "method_descriptor")) (hm : MtR X id r) (ok : OkM X.K X.mg r op)
    (ho : PD X .look O W f a) (he : PD X .look O W g e)
    (hbase : attributeBase a name X.env (eval a X.env) = eval a X.env := by rfl)
    (hfew : ((backTo cpos (starEach (e :: []) X.env)).all (fun x => !x.1) && (backToKw cpos (keywordEach [] X.env)).all (fun x => x.1.isSome) && decide ((e :: []).length + ([] : List Keyword).length + (if ([] : List Keyword).isEmpty then 0 else 1) < 30)) = true := by rfl)
    (hline : (apos.endLine == cpos.line) = true := by rfl) (hs : starEach (e :: []) X.env = (false, eval e X.env) :: starEach [] X.env := by rfl) (hplain : (backTo cpos (starEach [] X.env)).any (·.1) = false := by rfl) :
    PD X .fresh O W (eMth op f g) (.Call (.Attribute a name apos) [e] [] cpos) :=
  PE.imp (pe_bm PySem.F.plainAttrs_list slot hty hm ho (pa_cons he pa_nil hs) hbase hfew hline hs hplain) fun σ H Q ⟨ρ, F, s, q⟩ => ⟨ρ, F, s, Goal.bind q fun d x F1 H1 _ e1 k q1 => by
    cases d with
    | lst xs =>
      obtain ⟨o, vs, rfl, h1, h2, h3⟩ := (show Look X.K X.mg F1 H1 (.lst xs) x from k).lst
      simp only at q1
      split at q1
      · rename_i ns hn
        have := intsOf_of hn
        subst this
        have := repL_ints h2
        subst this
        refine ⟨list_ty h1, ρ, F1, s.ext e1, Goal.bind q1 fun d2 y F2 H2 _ e2 k2 q2 => ?_⟩
        exact ok W σ F2 H2 ns o d2 y Q e2.fh (e2.hh _ _ h1) k2 q2
      · exact q1.elim
    | _ => exact q1.elim⟩
end
theorem intsOf_ints : ∀ l : List Int, D.intsOf (l.map .int) = some l
  | [] => rfl
  | i :: l => by simp [D.intsOf, intsOf_ints l]
section
variable {K : PySem.W.Frag} {mg : Str → Option Value}
theorem ok_count : OkM K mg (rCntI K) D.count := by
  intro W σ F H ns a d y Q s h l q
  cases d with
  | int k =>
    cases Look.int l
    simp only [D.count, intsOf_ints] at q
    exact ⟨a, ns, k, rfl, rfl, SqL.of h, gInt s q⟩
  | _ => exact q.elim
theorem flat_ints : ∀ l : List Int, (l.map V.int).all flatV = true
  | [] => rfl
  | i :: l => by rw [List.map_cons, List.all_cons, flat_ints l]; rfl
theorem eqV_int (i j : Int) : eqV (.int i) (.int j) = (i == j) := rfl
theorem inV_ints (k : Int) (ns : List Int) : inV (.int k) (ns.map V.int) = ns.contains k := by
  rw [inV, List.any_map, Bool.eq_iff_iff, List.any_eq_true, List.contains_iff_mem]
  constructor
  · rintro ⟨x, hx, e⟩
    have : (x == k) = true := e
    rwa [← beq_iff_eq.mp this]
  · exact fun h => ⟨k, h, beq_self_eq_true k⟩
theorem ok_in : Ok2 K mg (rIn K false) D.isIn := by
  intro W σ F H dx dy x y Q s lx ly q
  cases dx with
  | int k =>
    cases Look.int lx
    cases dy with
    | lst xs =>
      obtain ⟨a, vs, rfl, h1, h2, h3⟩ := ly.lst
      simp only [D.isIn] at q
      split at q
      · rename_i ns hn
        have := intsOf_of hn
        subst this
        have := repL_ints h2
        subst this
        refine ⟨a, _, rfl, .inl (SqL.of h1), rfl, flat_ints ns, ?_⟩
        rw [if_neg (by decide), inV_ints]
        exact gBl s q
      · exact q.elim
    | tup xs =>
      obtain ⟨a, vs, rfl, h1, h2, h3⟩ := ly.tup s
      simp only [D.isIn] at q
      split at q
      · rename_i ns hn
        have := intsOf_of hn
        subst this
        have := repL_ints h2
        subst this
        refine ⟨a, _, rfl, .inr (SqT.of h1), rfl, flat_ints ns, ?_⟩
        rw [if_neg (by decide), inV_ints]
        exact gBl s q
      · exact q.elim
    | _ => exact q.elim
  | _ => cases dy <;> exact q.elim
theorem ok_notIn : Ok2 K mg (rIn K true) D.notIn := by
  intro W σ F H dx dy x y Q s lx ly q
  cases dx with
  | int k =>
    cases Look.int lx
    cases dy with
    | lst xs =>
      obtain ⟨a, vs, rfl, h1, h2, h3⟩ := ly.lst
      simp only [D.notIn] at q
      split at q
      · rename_i ns hn
        have := intsOf_of hn
        subst this
        have := repL_ints h2
        subst this
        refine ⟨a, _, rfl, .inl (SqL.of h1), rfl, flat_ints ns, ?_⟩
        rw [if_pos rfl, inV_ints]
        exact gBl s q
      · exact q.elim
    | tup xs =>
      obtain ⟨a, vs, rfl, h1, h2, h3⟩ := ly.tup s
      simp only [D.notIn] at q
      split at q
      · rename_i ns hn
        have := intsOf_of hn
        subst this
        have := repL_ints h2
        subst this
        refine ⟨a, _, rfl, .inr (SqT.of h1), rfl, flat_ints ns, ?_⟩
        rw [if_pos rfl, inV_ints]
        exact gBl s q
      · exact q.elim
    | _ => exact q.elim
  | _ => cases dy <;> exact q.elim
theorem ok_index : OkM K mg (rIndex K) D.index := by
  intro W σ F H ns a d y Q s h l q
  cases d with
  | int k =>
    cases Look.int l
    simp only [D.index, intsOf_ints] at q
    split at q
    · rename_i hc
      rw [List.contains_iff_mem] at hc
      have hlt : ns.idxOf k < ns.length := List.idxOf_lt_length_iff.mpr hc
      have hget : ns[ns.idxOf k] = k := List.getElem_idxOf hlt
      refine ⟨a, ns.map V.int, .int k, ns.idxOf k, .int k, rfl, rfl, SqL.of h, rfl, flat_ints ns, ?_, ?_, fun m z' hm hz => ?_, gInt s q⟩
      · rw [List.getElem?_map, List.getElem?_eq_getElem hlt, hget]; rfl
      · exact beq_self_eq_true k
      · rw [List.getElem?_map] at hz
        obtain ⟨n, hn, rfl⟩ := Option.map_eq_some_iff.mp hz
        show (n == k) = false
        have hml : m < ns.length := (List.getElem?_eq_some_iff.mp hn).1
        have e : ns[m] = n := (List.getElem?_eq_some_iff.mp hn).2
        have := List.not_of_lt_findIdx (p := (· == k)) (xs := ns) hm
        rw [← e]
        simpa using this
    · exact q.elim
  | _ => exact q.elim
end
/-! ### range(i, j, c) -/
section
variable {X : Cx} {O : List Nat} {W : WX} {f g h : EF} {a b c : Expr} {pos p : Pos} {tg : Expr}
theorem ItD.rngC {K : PySem.W.Frag} {mg : Str → Option Value} {F : Hp} {lo c : Int} {n : Nat} (z : n ≤ sizeLine) : ItD K mg (Itc lo c n) F ((List.range n).map fun k => .int (lo + (k : Nat) * c)) := by
  refine ⟨by rw [List.length_map, List.length_range]; exact z, fun i F1 H1 s1 s2 => ⟨fun d hd => ?_, fun e => ?_⟩⟩
  · rw [List.getElem?_map] at hd
    obtain ⟨k, hk, rfl⟩ := Option.map_eq_some_iff.mp hd
    obtain ⟨h1, h2⟩ := List.getElem?_eq_some_iff.mp hk
    rw [List.length_range] at h1
    rw [List.getElem_range] at h2
    subst h2
    refine ⟨h1, fun x H' y => ?_⟩
    obtain ⟨rfl, rfl⟩ := y
    exact ⟨F1, .refl s2, by simp [Rep]⟩
  · rw [List.length_map, List.length_range] at e
    show n ≤ i
    omega
theorem rng3_inv {i j c : Int} {xs : List D} (q : rng3 i j c = .ok xs) : -(2 ^ 60) ≤ i ∧ i < 2 ^ 60 ∧ -(2 ^ 60) ≤ j ∧ j < 2 ^ 60 ∧ 0 < c ∧ c < 2 ^ 30 ∧ (j - i).toNat ≤ lim ∧ xs = ((List.range ((j - i + c - 1) / c).toNat).map fun k => .int (i + (k : Nat) * c)) := by
  unfold rng3 at q
  split at q
  · rename_i hz
    simp only [Bool.and_eq_true, decide_eq_true_eq] at hz
    obtain ⟨⟨⟨⟨⟨⟨h1, h2⟩, h3⟩, h4⟩, h5⟩, h6⟩, h7⟩ := hz
    cases q
    exact ⟨h1, h2, h3, h4, h5, h6, h7, rfl⟩
  · cases q
theorem size_up {i j c : Int} (hc : 0 < c) : Builtin.Range.rangeSize i j c = (((j - i + c - 1) / c).toNat : Nat) := by
  unfold Builtin.Range.rangeSize
  rw [if_pos hc]
  split
  · have e : (j - i + c - 1) = (j - i - 1) + c := by omega
    have h0 : 0 ≤ (j - i - 1) / c := Int.ediv_nonneg (by omega) (by omega)
    rw [e, Int.add_ediv_of_dvd_right (Int.dvd_refl c), Int.ediv_self (by omega)]
    omega
  · have h0 : (j - i + c - 1) / c ≤ 0 := by
      have : (j - i + c - 1) / c < 1 := Int.ediv_lt_of_lt_mul hc (by omega)
      omega
    omega
theorem size_le {i j c : Int} (hc : 0 < c) : ((j - i + c - 1) / c).toNat ≤ (j - i).toNat := by
  by_cases h : j - i ≤ 0
  · have : (j - i + c - 1) / c < 1 := Int.ediv_lt_of_lt_mul hc (by omega)
    omega
  · have h1 : (j - i + c - 1) / c ≤ j - i := by
      have : (j - i + c - 1) / c < j - i + 1 := Int.ediv_lt_of_lt_mul hc (by
        have h3 : 0 ≤ (j - i) * (c - 1) := Int.mul_nonneg (by omega) (by omega)
        rw [Int.mul_sub] at h3
        rw [Int.add_mul]
        omega)
      omega
    omega
theorem rgc_up {i j c : Int} (h1 : -(2 ^ 60) ≤ i) (h2 : i < 2 ^ 60) (h3 : -(2 ^ 60) ≤ j) (h4 : j < 2 ^ 60) (hc : 0 < c) (h6 : c < 2 ^ 30) : RgC i j c ((j - i + c - 1) / c).toNat := by
  refine ⟨by omega, by omega, ?_, size_up hc⟩
  have hs := size_le (i := i) (j := j) hc
  unfold Builtin.Range.small
  rw [size_up hc]
  simp only [Builtin.Range.rangeFitsLong, Bool.and_eq_true, Bool.or_eq_true, decide_eq_true_eq, beq_iff_eq, hc, if_true]
  generalize ((j - i + c - 1) / c).toNat = n at hs
  omega
theorem pid_r3 (hg : Gl X "range") (hm : X.mg "range" = none) (ha : PD X .look O W f a) (hb : PD X .look O W g b) (hc : PD X .look O W h c)
    (hs : starEach [a, b, c] X.env = (false, eval a X.env) :: starEach [b, c] X.env := by rfl) (hs2 : starEach [b, c] X.env = (false, eval b X.env) :: starEach [c] X.env := by rfl) (hs3 : starEach [c] X.env = [(false, eval c X.env)] := by rfl)
    (hpl : (backTo pos (starEach [b, c] X.env)).any (·.1) = false := by rfl) :
    PID X O W tg (sA rngA (aC f (aC g (aC h aN)))) (.Call (.Name "range" p) [a, b, c] [] pos) :=
  PI.imp (pi_range3 hg hm (pad_consL ha (pad_consL hb (pad_consL hc pad_nil hs3) (by rw [hs2, hs3])) hs) hs hpl) fun σ H Q ⟨ρ, F, s, q⟩ => ⟨ρ, F, s, GoalI.bindA q fun ds vs F1 H1 ed e1 l q => by
    have l' : LookL X.K X.mg F1 H1 ds vs := l
    have : ∃ d e u, ds = [d, e, u] := by
      have : ∀ {f : EF} {a : AF} {ds : List D}, aC f a ρ = .ok ds → ∃ d es, ds = d :: es ∧ a ρ = .ok es := fun {f a ds} h => by
        unfold aC at h
        cases hf : f ρ with
        | ok d =>
          rw [hf] at h
          simp only [R.bind_ok] at h
          cases ha : a ρ with
          | ok es => rw [ha] at h; cases h; exact ⟨d, es, rfl, rfl⟩
          | err _ => rw [ha] at h; cases h
          | stuck => rw [ha] at h; cases h
        | err _ => rw [hf] at h; cases h
        | stuck => rw [hf] at h; cases h
      obtain ⟨d, es, rfl, h1⟩ := this ed
      obtain ⟨e, es, rfl, h2⟩ := this h1
      obtain ⟨u, es, rfl, h3⟩ := this h2
      cases h3
      exact ⟨d, e, u, rfl⟩
    obtain ⟨d, d2, d3, rfl⟩ := this
    simp only [LookL] at l'
    obtain ⟨v, _, rfl, l1, v2, _, rfl, l2, v3, _, rfl, l3, rfl⟩ := l'
    cases d with
    | int i =>
      cases d2 with
      | int j =>
        cases d3 with
        | int k =>
          cases Look.int l1
          cases Look.int l2
          cases Look.int l3
          have q' : GoalI X.K X.mg W σ F1 H1 (rng3 i j k) Q := q
          cases hr : rng3 i j k with
          | ok xs =>
            obtain ⟨h1, h2, h3, h4, h5, h6, h7, rfl⟩ := rng3_inv hr
            rw [hr] at q'
            refine ⟨i, j, k, _, rfl, rgc_up h1 h2 h3 h4 h5 h6, q' _ F1 H1 (.refl e1.fh) (ItD.rngC ?_)⟩
            have := size_le (i := i) (j := j) h5
            rw [← lim_eq]
            omega
          | err c =>
            unfold rng3 at hr
            split at hr <;> cases hr
          | stuck => rw [hr] at q'; exact q'.elim
        | _ => exact q.elim
      | _ => cases d3 <;> exact q.elim
    | _ => cases d2 <;> cases d3 <;> exact q.elim⟩
end
end RT

/-! tuple[::-1], after the pattern of the hand layer's slices of tuples -/
namespace RT
open PySem PySem.Spec PyProof.Rows L2 HT
section
variable {prog : Program} {w : World} {A : Around} {E : Value → Shared → Prop} {s : Shared}
theorem rev_places (n : Nat) : Builtin.Slice.slicePlaces ((n : Int) - 1) (-1) (-1) = n := by
  unfold Builtin.Slice.slicePlaces
  rw [if_neg (by decide)]
  split
  · show (((n : Int) - 1 - -1 - 1) / 1 + 1).toNat = n
    rw [Int.ediv_one]; omega
  · omega
theorem applied_rev {sl : Addr} {vs : Value} {n : Nat} {Q : Int × Int × Nat → Shared → Prop} (hs : s.heap.IsSliceOf sl .none .none vs) (ps : IsPart vs (some (-1)))
    (h : Q ((n : Int) - 1, -1, n) s) : wpAny (model prog w) A (Builtin.Slice.sliceApplied (.ref sl) (pure (n : Int))) Q E s := by
  obtain ⟨os, ho, hc, hd⟩ := id hs
  unfold Builtin.Slice.sliceApplied Builtin.Slice.sliceFields
  refine wpAny_bind (wpAny_bind (wpAny_field ho hd (x := .none) rfl (wpAny_bind (wpAny_field ho hd (x := .none) rfl (wpAny_bind (wpAny_field ho hd (x := vs) rfl (wpAny_pure ?_)))))))
  refine wpAny_bind (slicePart_ ps ?_)
  show wpAny _ _ (if ((-1 : Int) == 0) = true then _ else _) _ _ s
  rw [if_neg (show ¬ ((-1 : Int) == 0) = true by decide)]
  refine wpAny_bind (slicePart_none (wpAny_bind (slicePart_none (wpAny_bind (wpAny_pure ?_)))))
  show wpAny _ _ (pure ((n : Int) - 1, (-1 : Int), Builtin.Slice.slicePlaces ((n : Int) - 1) (-1) (-1))) _ _ s
  rw [rev_places]
  exact wpAny_pure h
theorem pick_back (xs : List Value) : ((List.range xs.length).filterMap fun (m : Nat) => xs.toArray[(((xs.length : Int) - 1) + (m : Int) * (-1)).toNat]?) = xs.reverse := by
  have e : ∀ (l : List Nat), (∀ m ∈ l, m < xs.length) → (l.filterMap fun (m : Nat) => xs.toArray[(((xs.length : Int) - 1) + (m : Int) * (-1)).toNat]?) = l.map fun m => xs.reverse.getD m .none := by
    intro l
    induction l with
    | nil => intro _; rfl
    | cons m l ih =>
      intro h
      have hm := h m (by simp)
      have hi : (((xs.length : Int) - 1) + (m : Int) * (-1)).toNat = xs.length - 1 - m := by omega
      have hg : xs.toArray[(((xs.length : Int) - 1) + (m : Int) * (-1)).toNat]? = some (xs.reverse.getD m .none) := by
        rw [hi, List.getElem?_toArray, List.getD_eq_getElem?_getD, List.getElem?_reverse hm, List.getElem?_eq_getElem (by omega)]
        rfl
      rw [List.filterMap_cons, hg, List.map_cons, ← ih fun k hk => h k (by simp [hk])]
  rw [e _ fun m hm => List.mem_range.mp hm]
  apply List.ext_getElem
  · simp
  · intro i h1 h2
    simp at h1
    simp [h1]
theorem getItem_tup_back {t sl : Addr} {xs : List Value} {vs : Value} {Q : Value → Shared → Prop} (ht : IsTup s.heap t xs.toArray) (hs : s.heap.IsSliceOf sl .none .none vs) (ps : IsPart vs (some (-1))) (hsz : xs.length ≤ sizeLine)
    (h : Q (.ref s.heap.objs.size) { s with heap := s.heap.push { cls := .type "tuple", data := .seq xs.reverse.toArray } }) : wpAny (model prog w) A (getItem (.ref t) (.ref sl)) Q E s := by
  have hok : sizeOk (.seq xs.reverse.toArray) := by
    show xs.reverse.toArray.size ≤ sizeLine
    rw [List.size_toArray, List.length_reverse]
    exact hsz
  obtain ⟨os, ho, hc, hd⟩ := id hs
  have ty : s.TypeIs (.ref sl) "slice" := ⟨os, ho, hc⟩
  unfold getItem
  try with_reducible refine wpAny_holding ?_
  first | refine wpAny_bind (wpAny_pure ?_) | skip
  refine wpAny_bind (wpAny_sequenceKey ht.typeIs (by decide) ?_)
  refine wpAny_bind (wpAny_callSpecial?_slot (name := Str.ofString "__getitem__") ht.typeIs PyProof.Rows.slot_tuple_getitem (wpAny_call_entry PyProof.Rows.slot_tuple_getitem ht.typeIs entry_tuple_getitem ?_ (args_tuple_getitem _ _)))
  show wpAny _ _ (Builtin.Tuple.tupleItemsOf (.ref t) >>= _) _ _ s
  refine wpAny_bind (tupleItemsOf_ ht (wpAny_bind (wpAny_typeOf ty ?_)))
  rw [if_pos (by decide)]
  refine wpAny_bind (applied_rev (n := xs.toArray.size) hs ps ?_)
  have no : ¬ ((((xs.toArray.size : Nat) : Int) - 1 == 0 && (-1 : Int) == 1 && xs.toArray.size == xs.toArray.size) = true) := by
    intro q
    rw [Bool.and_eq_true, Bool.and_eq_true] at q
    exact absurd q.1.2 (by decide)
  show wpAny _ _ (if (((xs.toArray.size : Nat) : Int) - 1 == 0 && (-1 : Int) == 1 && xs.toArray.size == xs.toArray.size) = true then _ else _) _ _ s
  have pk := pick_back xs
  rw [if_neg no, List.size_toArray, pk]
  first
    | exact wpAny_bind (m := Builtin.Tuple.tupleExact _) (wpAny_newObj_type (wpAny_pure ⟨_, rfl, wpAny_pure h⟩) hok)
    | exact wpAny_bind (m := Builtin.Tuple.tupleExact _) (wpAny_newObj_type (wpAny_bind (wpAny_pure (wpAny_pure ⟨_, rfl, wpAny_pure h⟩))) hok)
    | exact wpAny_bind (wpAny_bind (m := Builtin.Tuple.tupleExact _) (wpAny_newObj_type (wpAny_pure (wpAny_pure ⟨_, rfl, wpAny_pure h⟩)) hok))
    | exact wpAny_bind (wpAny_bind (m := Builtin.Tuple.tupleExact _) (wpAny_newObj_type (wpAny_pure ⟨_, rfl, wpAny_pure h⟩) hok))
end
section
variable {X : Cx} {O : List Nat} {W : WX} {f g : EF} {e a b : Expr} {pos p : Pos}
def tRevA (K : PySem.W.Frag) (te : TE) : TE := fun σ H Q => te σ H fun x H1 => ∃ a xs, x = .ref a ∧ ((SqL K H1 a xs ∧ ∀ p, H1 p = none → Q (.ref p) (upd H1 p (.lst xs.reverse))) ∨ (SqT K H1 a xs ∧ ∀ p, H1 p = none → Q (.ref p) (upd H1 p (.tup xs.reverse))))
theorem pe_revA {te : TE} {k : Nat} {p1 p2 p3 : Pos} (he : PE X e te) : PE X (.Subscript e (.Slice none none (some (.UnaryOp .USub (.Constant (.int 1) k p1) p2)) p3) pos) (tRevA X.K te) := by
  refine ⟨fun pins s σ H Q I h => ?_⟩
  refine Subscript_ (thn (he.run pins s σ H _ I h) fun v s1 ⟨x, H1, I1, r1, q1⟩ => ?_)
  obtain ⟨a, xs, ex, q1⟩ := q1
  subst ex
  cases r1
  have st : PO X (some (.UnaryOp .USub (.Constant (.int 1) k p1) p2)) (tPart (tUn (rU fun i => .int (-i)) (tC (.int 1)))) := po_some (pe_un un_neg pe_int)
  refine wpAny_Slice ?_
  rw [evalPart_none]
  refine wpAny_pure ?_
  refine wpAny_pure ?_
  refine thn (st.run pins s1 σ H1 (fun o H4 => o = some (-1) ∧ H4 = H1) I1 ⟨1, rfl, -1, rfl, rfl, rfl⟩) fun vs s4 ⟨o, H4, I4, ps, eo, e4⟩ => ?_
  subst eo e4
  have I5 : Inv X pins σ H4 { s4 with heap := s4.heap.push { cls := .type "slice", data := .fields #[.none, .none, vs] } } := I4.kept (t' := s4.toks) fun b ob q => Heap.get?_push_of_some _ q
  show wpAny (model X.prog X.w) X.A (subscriptTail e (.Slice none none (some (.UnaryOp .USub (.Constant (.int 1) k p1) p2)) p3) (.ref a) (.ref s4.heap.objs.size)) (EP X pins σ Q) X.xe { s4 with heap := s4.heap.push { cls := .type "slice", data := .fields #[.none, .none, vs] } }
  rcases q1 with ⟨hx, q⟩ | ⟨hx, q⟩
  · obtain ⟨its, r, ht, hz⟩ := I5.list hx
    have hlen := r.length
    refine tail_any (ops := [.ref a, .ref s4.heap.objs.size]) ht.isList.typeIs (PySem.slot_list_getitem.lookup) ?_ (by with_unfolding_all rfl)
    refine wpAny_getItem_list_slice ht.isList (Heap.IsSliceOf.new _ .none .none vs) .none .none ps (by decide) ?_ (by rw [List.size_toArray]; omega)
    rw [PySem.W.krv_pick]
    refine ⟨.ref _, _, I5.laid (t' := s4.toks) (o := .lst xs.reverse) (fun b ob q => Heap.get?_push_of_some _ q) (Nat.le_refl _) ?_, rfl, q _ (I5.hok.fresh (Nat.le_refl _))⟩
    exact ⟨by rw [List.length_reverse]; exact hz, _, 0, r.reverse, Heap.get?_push_size _ rfl⟩
  · obtain ⟨its, r, ht, hz⟩ := I5.tuple hx
    have hlen := r.length
    refine tail_any (ops := [.ref a, .ref s4.heap.objs.size]) ht.typeIs (PyProof.Rows.slot_tuple_getitem.lookup) ?_ (by with_unfolding_all rfl)
    refine getItem_tup_back ht (Heap.IsSliceOf.new _ .none .none vs) ps (by omega) ?_
    refine ⟨.ref _, _, I5.laid (t' := s4.toks) (o := .tup xs.reverse) (fun b ob q => Heap.get?_push_of_some _ q) (Nat.le_refl _) ?_, rfl, q _ (I5.hok.fresh (Nat.le_refl _))⟩
    exact ⟨by rw [List.length_reverse]; exact hz, _, r.reverse, ⟨_, Heap.get?_push_size _ rfl, rfl, _, rfl⟩⟩
/-- x[::-1] -/
theorem pd_rev {k : Nat} {p1 p2 p3 : Pos} (h : PD X .look O W f e) : PD X .fresh O W (e1 D.rev f) (.Subscript e (.Slice none none (some (.UnaryOp .USub (.Constant (.int 1) k p1) p2)) p3) pos) :=
  PE.imp (pe_revA h) fun σ H Q ⟨ρ, F, s, q⟩ => ⟨ρ, F, s, Goal.bind q fun d x F1 H1 _ e1 k q1 => by
    have k' : Look X.K X.mg F1 H1 d x := k
    cases d with
    | lst ds =>
      obtain ⟨a, vs, rfl, h1, h2, h3⟩ := k'.lst
      exact ⟨a, vs, rfl, .inl ⟨SqL.of h1, gLst e1.fh h2.rev (by rw [List.length_reverse]; exact h3) q1⟩⟩
    | tup ds =>
      obtain ⟨a, vs, rfl, h1, h2, h3⟩ := k'.tup e1.fh
      exact ⟨a, vs, rfl, .inr ⟨SqT.of h1, gTup e1.fh h2.rev (by rw [List.length_reverse]; exact h3) q1⟩⟩
    | _ => exact q1.elim⟩
end
/-! ### list * bool -/
section
variable {K : PySem.W.Frag} {mg : Str → Option Value}
theorem ok_mulB : Ok2 K mg (fun x y H Q => ∃ a xs k, x = V.ref a ∧ y = V.bl k ∧ SqL K H a xs ∧ ∀ p, H p = none → Q (.ref p) (upd H p (.lst (if k = true then xs else [])))) D.mulB := by
  intro W σ F H dx dy x y Q s lx ly q
  cases dx with
  | lst ds =>
    cases dy with
    | bl k =>
      cases Look.bl ly
      obtain ⟨a, vs, rfl, h1, h2, h3⟩ := lx.lst
      refine ⟨a, vs, k, rfl, rfl, SqL.of h1, ?_⟩
      cases k with
      | true => exact gLst s h2 h3 q
      | false => exact gLst (ds := []) s (by simp [RepL]) (Nat.zero_le _) q
    | _ => exact q.elim
  | _ => cases dy <;> exact q.elim
end
end RT

/-! try .. except .. as e -/
namespace RT
open PySem PySem.Spec PyProof.Rows L2
theorem kit_sub {K : PySem.W.Frag} {C CA : Addr} {b : Bool} (hd : PySem.W.hasDictIn K CA = true) (ht : PySem.W.typeIn K (.ref CA) = some (.type "type")) (self : PySem.W.subIn K (.ref CA) (.ref CA) = some true) (h : PySem.W.subIn K (.ref C) (.ref CA) = some b) : PySem.W.kitOne K (.ref C) (.ref CA) = some b := by
  unfold PySem.W.kitOne
  by_cases e : (Value.ref C == Value.ref CA) = true
  · rw [if_pos e]
    have := beq_iff_eq.mp e
    cases this
    rw [self] at h
    exact h
  · rw [if_neg e]
    obtain ⟨cd, hc, _⟩ := PySem.W.any_some hd
    show (if ((PySem.W.clsIn K CA).isSome && PySem.W.typeIn K (.ref CA) == some (.type "type")) = true then PySem.W.subIn K (.ref C) (.ref CA) else none) = some b
    rw [hc, ht, if_pos (by rfl)]
    exact h
/-- which of the classes are below CA -/
def TabOk (K : PySem.W.Frag) (mg : Str → Option Value) (CA : Addr) (tab : List (Str × Bool)) : Prop := ∀ c b, tab.lookup c = some b → ∀ C, mg c = some (.ref C) → ExcC K C ∧ PySem.W.kitOne K (.ref C) (.ref CA) = some b
theorem tab_nil {K : PySem.W.Frag} {mg : Str → Option Value} {CA : Addr} : TabOk K mg CA [] := fun _ _ h => nomatch h
theorem tab_cons {K : PySem.W.Frag} {mg : Str → Option Value} {CA C0 : Addr} {c0 : Str} {b0 : Bool} {tab : List (Str × Bool)} (g : mg c0 = some (.ref C0)) (e : ExcC K C0) (k : PySem.W.kitOne K (.ref C0) (.ref CA) = some b0) (r : TabOk K mg CA tab) : TabOk K mg CA ((c0, b0) :: tab) := fun c b h C hC => by
  rw [List.lookup_cons] at h
  cases hb : c == c0 with
  | true =>
    rw [hb] at h
    have := beq_iff_eq.mp hb
    subst this
    rw [g] at hC
    cases hC
    cases h
    exact ⟨e, k⟩
  | false => rw [hb] at h; exact r c b h C hC
def CsOk (K : PySem.W.Frag) (mg : Str → Option Value) (CR : Addr) (cs : List Str) : Prop := ∀ c, cs.contains c = true → ∀ C, mg c = some (.ref C) → PySem.W.exmOne K (.ref C) (.ref CR) = some true
theorem cs_nil {K : PySem.W.Frag} {mg : Str → Option Value} {CR : Addr} : CsOk K mg CR [] := fun _ h => nomatch h
theorem cs_cons {K : PySem.W.Frag} {mg : Str → Option Value} {CR C0 : Addr} {c0 : Str} {cs : List Str} (g : mg c0 = some (.ref C0)) (k : PySem.W.exmOne K (.ref C0) (.ref CR) = some true) (r : CsOk K mg CR cs) : CsOk K mg CR (c0 :: cs) := fun c h C hC => by
  rw [List.contains_cons, Bool.or_eq_true] at h
  rcases h with h | h
  · have := beq_iff_eq.mp h
    subst this
    rw [g] at hC
    cases hC
    exact k
  · exact r c h C hC
/-- the suite does not look at the error's address -/
def IndS (i : Nat) (s : Str → Nat → SF) : Prop := ∀ (c : Str) (a : Nat) (ρ : Env) (d : D), s c 0 (ρ.set i (some (.exc c 0))) = .rt d → s c a (ρ.set i (some (.exc c a))) = .rt d
theorem repL_bls {K : PySem.W.Frag} {mg : Str → Option Value} {F : Hp} : ∀ {l : List Bool} {vs : List V}, RepL K mg F (l.map .bl) vs → vs = l.map V.bl
  | [], vs, h => by simpa [RepL] using h
  | i :: l, vs, h => by
    simp only [List.map_cons, RepL, Rep] at h
    obtain ⟨v, vs', rfl, rfl, h⟩ := h
    rw [repL_bls h, List.map_cons]
section
variable {X : Cx} {O O' : List Nat} {W : WX} {s : SF} {h : Str → Nat → SF} {f : EF} {e : Expr} {pos np pos' p p1 p2 : Pos}
theorem pd_isE {a C CA : Addr} {c n x : Str} {oe : Obj} {pn : List (Addr × Obj)} {tab : List (Str × Bool)} (i : Nat) (ht : TabOk X.K X.mg CA tab) (hC : X.mg c = some (.ref C)) (hz : Zc (.ref C) none oe) (hf : ∃ vs, oe.data = .fields vs)
    (hg : Gl (X.suite a ((a, oe) :: pn)) "isinstance") (hm : X.mg "isinstance" = none) (hv : bootBuiltins "isinstance" = some (.builtin "isinstance")) (hgA : Gl (X.suite a ((a, oe) :: pn)) x) (hA : X.mg x = some (.ref CA)) (hdA : (x == ("__debug__" : Str)) = false := by decide)
    (hN : X.N[i]? = some n := by rfl) (hvn : Vis X.env.scope n := by first | exact Or.inl rfl | exact Or.inr (Or.inl rfl) | exact Or.inr (Or.inr rfl)) (hd : (n == ("__debug__" : Str)) = false := by decide) (hcd : (n == ("__classdict__" : Str)) = false := by decide) (hn : ("isinstance" : Str) ≠ "__name__" := by decide) (hdb : (("isinstance" : Str) == ("__debug__" : Str)) = false := by decide)
    (he : starEach [.Name n p1, .Name x p2] X.env = (false, eval (.Name n p1) X.env) :: starEach [.Name x p2] X.env := by rfl) (he2 : starEach [.Name x p2] X.env = (false, eval (.Name x p2) X.env) :: starEach [] X.env := by rfl) (hpl : (backTo pos (starEach [.Name x p2] X.env)).any (·.1) = false := by rfl) :
    PD (X.suite a ((a, oe) :: pn)) .fresh O W (eIsE i c a tab) (.Call (.Name "isinstance" p) [.Name n p1, .Name x p2] [] pos) := by
  refine ⟨fun pins s σ H Q I ⟨ρ, F, sr, q⟩ => ?_⟩
  unfold eIsE at q
  split at q
  · rename_i c' b hr
    split at q
    · rename_i hb
      obtain ⟨rfl, rfl⟩ := hb
      split at q
      · rename_i t hl
        obtain ⟨hE, hk⟩ := ht _ _ hl _ hC
        have hO : i ∉ O := fun hi => by
          obtain ⟨_, _, z, _⟩ := sr.own i _ hr hi
          exact z.elim
        obtain ⟨v, h1, h2⟩ := sr.dat i _ hr hO
        have h2' : v = .ref b := by simpa [Rep] using h2
        subst h2'
        refine (pe_callB (call_isE hE hz hf) hg hm hv (pa_cons (pe_var (X := X.suite b ((b, oe) :: pn)) hN hvn hd hcd) (pa_cons (pe_glob hgA hA (v := .ref CA) rfl hdA) pa_nil he2) he) hn hdb he hpl).run pins s σ H Q I ?_
        exact ⟨.ref b, h1, .ref CA, .ref CA, t, rfl, fun u z => z, hk, gBl sr.sub q⟩
      · exact q.elim
    · exact q.elim
  · exact q.elim
theorem psd_tryAs {n x : Str} {i : Nat} {CR : Addr} {cs : List Str} {bd su : List Stmt} {b₀ : Stmt} (hs : X.stack = X.env :: X.outer) (hf : X.env.frame = some X.env.locals) (hN : X.N.Nodup) (hi : X.N[i]? = some n) (hln : X.env.kindOf n = some .local) (hg : Gl X x) (hm : X.mg x = some (.ref CR)) (tk : Takes X W)
    (hcs : CsOk X.K X.mg CR cs)
    (hb : ∀ (W : WX) (pn : List (Addr × Obj)) (xe : Value → Shared → Prop), Takes (X.tr pn xe) W → PassesOwn (model X.prog X.w) X.A X.env xe → PSsD (X.tr pn xe) O O' W s bd)
    (hsu : ∀ (a : Addr) (oe : Obj) (C : Addr) (c : Str) (pn : List (Addr × Obj)), X.mg c = some (.ref C) → Zc (.ref C) none oe → (∃ vs, oe.data = .fields vs) → PSsD (X.suite a ((a, oe) :: pn)) [] [] (fun _ _ _ _ => False) (h c a) (b₀ :: su))
    (hi0 : IndS i h) (hdb : (x == ("__debug__" : Str)) = false := by decide) :
    PSD X O O' W (sTryAs i cs s h) (.Try bd [.ExceptHandler (some (.Name x np)) (some n) (b₀ :: su) pos'] [] [] pos) := fun B =>
  PS.imp (ps_try_as (i := i) (c := .ref CR) (tb := fun W => tSD X.K X.mg B O O' W s)
    (ts := fun a cls d E σ H => ∃ c C, X.mg c = some (.ref C) ∧ cls = .ref C ∧ d = none ∧ tSD X.K X.mg B [] [] (fun _ _ _ _ => False) (h c a) E σ H) hs hf hN hi hln ⟨hg, hdb, .inl hm⟩ tk (fun W pn xe t p => hb W pn xe t p B)
    (fun a oe cls d pn z fl => ⟨fun pins s σ H E I ⟨c, C, h1, h2, h3, h4⟩ => by
      subst h2 h3
      exact (hsu a oe C c pn h1 z fl B).run pins s σ H E I h4⟩)) fun E σ H ⟨ρ, F, sb, q⟩ => by
    refine ⟨ρ, F, sb, ?_⟩
    unfold sTryAs at q
    cases hs' : s ρ with
    | nx ρ' => rw [hs'] at q; exact q
    | rt d => rw [hs'] at q; exact q
    | stuck => rw [hs'] at q; exact q.elim
    | er c ρ' =>
      rw [hs'] at q
      simp only at q
      intro O1 σ1 F1 H1 sb1 C hC
      split at q
      · rename_i hc
        refine ⟨true, hcs c hc C hC, fun _ a ha => ?_, fun z => nomatch z⟩
        obtain ⟨F2, s2, sb2⟩ := sb1.frz (O' := []) (fun _ z => nomatch z)
        refine ⟨c, C, hC, rfl, rfl, ρ'.set i (some (.exc c a)), F2, sb2.store (d := .exc c a) (v := .ref a) rfl (by simp [Rep]), ?_⟩
        split at q
        · rename_i d hd
          rw [hi0 c a ρ' d hd]
          exact q
        · exact q.elim
      · exact q.elim
/-- xs.index(True) -/
theorem pd_idxB {apos cpos : Pos} {j : Nat} (ho : PD X .look O W f e)
    (hbase : attributeBase e "index" X.env (eval e X.env) = eval e X.env := by rfl)
    (hfew : ((backTo cpos (starEach [.Constant (.bool true) j p] X.env)).all (fun x => !x.1) && (backToKw cpos (keywordEach [] X.env)).all (fun x => x.1.isSome) && decide (([.Constant (.bool true) j p] : List Expr).length + ([] : List Keyword).length + (if ([] : List Keyword).isEmpty then 0 else 1) < 30)) = true := by rfl)
    (hline : (apos.endLine == cpos.line) = true := by rfl) (hs : starEach [.Constant (.bool true) j p] X.env = (false, eval (.Constant (.bool true) j p) X.env) :: starEach [] X.env := by rfl) (hplain : (backTo cpos (starEach [] X.env)).any (·.1) = false := by rfl) :
    PD X .fresh O W (eIdxB f) (.Call (.Attribute e "index" apos) [.Constant (.bool true) j p] [] cpos) :=
  PE.imp (pe_bm PySem.F.plainAttrs_list PySem.F.slot_list_index PySem.F.type_list_index mt_index ho (pa_cons pe_bl pa_nil hs) hbase hfew hline hs hplain) fun σ H Q ⟨ρ, F, s, q⟩ => ⟨ρ, F, s, Goal.bind q fun d x F1 H1 _ e1 k q1 => by
    cases d with
    | lst xs =>
      obtain ⟨o, vs, rfl, h1, h2, h3⟩ := (show Look X.K X.mg F1 H1 (.lst xs) x from k).lst
      simp only at q1
      split at q1
      · rename_i bs hb
        have := blsOf_eq hb
        subst this
        have := repL_bls h2
        subst this
        refine ⟨list_ty h1, ?_⟩
        split at q1
        · rename_i hc
          rw [List.contains_iff_mem] at hc
          have hlt : bs.idxOf true < bs.length := List.idxOf_lt_length_iff.mpr hc
          have hget : bs[bs.idxOf true] = true := List.getElem_idxOf hlt
          refine ⟨o, bs.map V.bl, .bl true, bs.idxOf true, .bl true, rfl, rfl, SqL.of h1, rfl, ?_, ?_, rfl, fun m z' hm hz => ?_, gInt e1.fh q1⟩
          · rw [List.all_map, List.all_eq_true]; exact fun _ _ => rfl
          · rw [List.getElem?_map, List.getElem?_eq_getElem hlt, hget]; rfl
          · rw [List.getElem?_map] at hz
            obtain ⟨n, hn, rfl⟩ := Option.map_eq_some_iff.mp hz
            have hml : m < bs.length := (List.getElem?_eq_some_iff.mp hn).1
            have e : bs[m] = n := (List.getElem?_eq_some_iff.mp hn).2
            have := List.not_of_lt_findIdx (p := (· == true)) (xs := bs) hm
            rw [e] at this
            cases n with
            | true => simp at this
            | false => rfl
        · exact q1.elim
      · exact q1.elim
    | _ => exact q1.elim⟩
end
/-! the suite does not look at the error's address -/
def IndE (i : Nat) (f : Str → Nat → EF) : Prop := ∀ (c : Str) (a : Nat) (ρ : Env), f c a (ρ.set i (some (.exc c a))) = f c 0 (ρ.set i (some (.exc c 0)))
def IndA (i : Nat) (f : Str → Nat → AF) : Prop := ∀ (c : Str) (a : Nat) (ρ : Env), f c a (ρ.set i (some (.exc c a))) = f c 0 (ρ.set i (some (.exc c 0)))
def IndT (i : Nat) (f : Str → Nat → TF) : Prop := ∀ (c : Str) (a : Nat) (ρ : Env), f c a (ρ.set i (some (.exc c a))) = f c 0 (ρ.set i (some (.exc c 0)))
section
variable {i j : Nat} {f g : Str → Nat → EF} {ar : Str → Nat → AF} {t : Str → Nat → TF} {u : Str → Nat → SF} {tab : List (Str × Bool)} {d : D} {op : D → D → R D}
theorem ind_isE : IndE i fun c a => eIsE i c a tab := fun c a ρ => by
  show eIsE i c a tab _ = eIsE i c 0 tab _
  unfold eIsE
  by_cases h : i < ρ.length
  · rw [List.getElem?_set_self h, List.getElem?_set_self h]
    simp
  · rw [List.getElem?_eq_none (by simpa using h), List.getElem?_eq_none (by simpa using h)]
theorem ind_C : IndE i fun _ _ => eC d := fun _ _ _ => rfl
theorem ind_V (h : j ≠ i) : IndE i fun _ _ => eV j := fun c a ρ => by
  show eV j _ = eV j _
  unfold eV
  rw [List.getElem?_set_ne (Ne.symm h), List.getElem?_set_ne (Ne.symm h)]
theorem ind_N : IndA i fun _ _ => aN := fun _ _ _ => rfl
theorem ind_aC (hf : IndE i f) (ha : IndA i ar) : IndA i fun c a => aC (f c a) (ar c a) := fun c a ρ => by
  show aC (f c a) (ar c a) _ = aC (f c 0) (ar c 0) _
  unfold aC
  rw [hf, ha]
theorem ind_lst (ha : IndA i ar) : IndE i fun c a => eLst (ar c a) := fun c a ρ => by
  show eLst (ar c a) _ = eLst (ar c 0) _
  unfold eLst
  rw [ha]
theorem ind_tup (ha : IndA i ar) : IndE i fun c a => eTup (ar c a) := fun c a ρ => by
  show eTup (ar c a) _ = eTup (ar c 0) _
  unfold eTup
  rw [ha]
theorem ind_idxB (hf : IndE i f) : IndE i fun c a => eIdxB (f c a) := fun c a ρ => by
  show eIdxB (f c a) _ = eIdxB (f c 0) _
  unfold eIdxB
  rw [hf]
theorem ind_2 (hf : IndE i f) (hg : IndE i g) : IndE i fun c a => e2 op (f c a) (g c a) := fun c a ρ => by
  show e2 op (f c a) (g c a) _ = e2 op (f c 0) (g c 0) _
  unfold e2
  rw [hf, hg]
theorem ind_tV (hf : IndE i f) : IndT i fun c a => tV (f c a) := fun c a ρ => by
  show tV (f c a) _ = tV (f c 0) _
  unfold tV
  rw [hf]
theorem ind_If (ht : IndT i t) (hf : IndE i f) (hg : IndE i g) : IndE i fun c a => eIf (t c a) (f c a) (g c a) := fun c a ρ => by
  show eIf (t c a) (f c a) (g c a) _ = eIf (t c 0) (f c 0) (g c 0) _
  unfold eIf
  rw [ht, hf, hg]
theorem ind_ret (hf : IndE i f) : IndS i fun c a => sRet (f c a) := fun c a ρ d h => by
  have h : sRet (f c 0) _ = .rt d := h
  show sRet (f c a) _ = .rt d
  unfold sRet at h ⊢
  rw [hf]
  cases hx : f c 0 (ρ.set i (some (.exc c 0))) with
  | ok x => rw [hx] at h; exact h
  | err x => rw [hx] at h; cases h
  | stuck => rw [hx] at h; cases h
theorem ind_set (h : j ≠ i) (hf : IndE i f) (hu : IndS i u) : IndS i fun c a => sSeq (sSet j (f c a)) (u c a) := fun c a ρ d q => by
  have q : sSeq (sSet j (f c 0)) (u c 0) _ = .rt d := q
  show sSeq (sSet j (f c a)) (u c a) _ = .rt d
  unfold sSeq sSet at q ⊢
  rw [hf]
  cases hx : f c 0 (ρ.set i (some (.exc c 0))) with
  | ok x =>
    rw [hx] at q
    have q : u c 0 ((ρ.set i (some (.exc c 0))).set j (some x)) = .rt d := q
    show u c a ((ρ.set i (some (.exc c a))).set j (some x)) = .rt d
    rw [List.set_comm _ _ (Ne.symm h)] at q ⊢
    exact hu c a _ d q
  | err x => rw [hx] at q; cases q
  | stuck => rw [hx] at q; cases q
end
end RT

/-! defs as values -/
namespace RT
open PySem PySem.Spec PyProof.Rows L2
/-- the def x, called with n arguments, keeps F -/
def FOk (X : Cx) (n : Nat) (x : Str) (F : List D → R D) : Prop := ∃ (k : Nat) (fa : Addr) (fd : FuncData) (ps : List Str), X.mg x = some (.ref fa) ∧ PySem.W.keepIn X.K (.ref fa) = true ∧ Binds X.K fd ps [] ∧ FnOk X.prog X.w X.K X.mg X.base (L2.CX X.prog X.w) k fa fd ps (spD X.K X.mg n F) ∧ Room k X.A
def TabF (X : Cx) (n : Nat) (tab : List (Str × (List D → R D))) : Prop := ∀ x F, tab.lookup x = some F → FOk X n x F
theorem tabF_nil {X : Cx} {n : Nat} : TabF X n [] := fun _ _ h => nomatch h
theorem tabF_cons {X : Cx} {n : Nat} {x : Str} {F : List D → R D} {tab : List (Str × (List D → R D))} (h : FOk X n x F) (r : TabF X n tab) : TabF X n ((x, F) :: tab) := fun y G q => by
  rw [List.lookup_cons] at q
  cases hb : y == x with
  | true =>
    rw [hb] at q
    have := beq_iff_eq.mp hb
    subst this
    cases q
    exact h
  | false => rw [hb] at q; exact r y G q
section
variable {X : Cx} {O : List Nat} {W : WX} {f : EF} {ar : AF} {fe e : Expr} {es : List Expr} {pos p : Pos}
theorem fok_def {n k : Nat} {st : Stmt} {ps : List Str} {F : List D → R D} {x nm : Str} (T : DefT X.K X.mg x nm st ps) (G : FnOk X.prog X.w X.K X.mg X.base (L2.CX X.prog X.w) k T.fa T.fd ps (spD X.K X.mg n F)) (hr : Room k X.A) : FOk X n x F := ⟨k, T.fa, T.fd, ps, T.g, T.F.kp, T.b, G, hr⟩
/-- a def of the module as a value -/
theorem pd_fn {st : Stmt} {ps : List Str} {x nm : Str} (T : DefT X.K X.mg x nm st ps) (hg : Gl X x := by rfl) (hd : (x == ("__debug__" : Str)) = false := by decide) : PD X .rep O W (eC (.fn x)) (.Name x pos) :=
  pd_c (pe_glob hg T.g (v := .ref T.fa) rfl hd) fun _ => by simp only [Rep]; exact ⟨_, rfl, T.g⟩
theorem pd_callV {n : Nat} {tab : List (Str × (List D → R D))} (hf : PD X .rep O W f fe) (ht : TabF X n tab) (tk : Takes X W) (ha : PAD X .rep O W ar (e :: es)) (hn : ∀ ρ ds, ar ρ = .ok ds → ds.length = n)
    (he : starEach (e :: es) X.env = (false, eval e X.env) :: starEach es X.env := by rfl) (hpl : (backTo pos (starEach es X.env)).any (·.1) = false := by rfl)
    (hev : eval (.Call fe (e :: es) [] pos) X.env = (eval fe X.env >>= fun v => callWith pos v [] (backTo pos (starEach (e :: es) X.env)) (backToKw pos (keywordEach [] X.env))) := by rfl) :
    PD X .rep O W (eCallV tab f ar) (.Call fe (e :: es) [] pos) := by
  refine ⟨fun pins s σ H Q I ⟨ρ, F0, sr, q⟩ => ?_⟩
  refine Call_ (thn (hf.run pins s σ H (fun x H1 => ∃ F1 nm a, SR X.K X.mg O ρ F1 σ H1 ∧ x = .ref a ∧ X.mg nm = some (.ref a) ∧ Goal X.K X.mg .rep W σ F1 H1 (match tab.lookup nm with
    | some F => (ar ρ).bind F
    | none => .stuck) Q) I ⟨ρ, F0, sr, Goal.bind q fun d x F1 H1 _ e1 k q1 => ?_⟩) fun v s1 ⟨x, H1, I1, r1, F1, nm, a, sr1, ex, hm, q1⟩ => ?_) hev
  · cases d with
    | fn nm =>
      have k' : Rep X.K X.mg F1 (.fn nm) x := k
      simp only [Rep] at k'
      obtain ⟨a, rfl, hm⟩ := k'
      exact ⟨F1, nm, a, sr.ext e1, rfl, hm, q1⟩
    | _ => exact q1.elim
  · subst ex
    cases r1
    cases hl : tab.lookup nm with
    | none => rw [hl] at q1; exact q1.elim
    | some F =>
      rw [hl] at q1
      obtain ⟨k, fa, fd, ps, g1, hk, hb, G, hr⟩ := ht nm F hl
      rw [hm] at g1
      cases g1
      refine PySem.W.callWith_K I1.ok.mod.kin hk (thn (ha.run pos pins s1 σ H1 (fun vs H2 => ∃ ds F2, Same F2 H2 ∧ RepL X.K X.mg F2 ds vs ∧ ds.length = n ∧ Goal X.K X.mg .rep W σ F2 H2 (F ds) Q) I1 ⟨ρ, F1, sr1, Goal.bindA q1 fun ds vs F2 H2 ed e2 l q2 => ⟨ds, F2, e2.fh, l, hn ρ ds ed, q2⟩⟩) fun us s2 ⟨vs, H2, I2, r2, ds, F2, sF, l, hlen, q2⟩ => ⟨I2.kIn, ?_⟩) he hpl
      refine run_fnS (E := WE W) G hr hb (passAt tk σ) I2 r2 ⟨by rw [l.len]; exact hlen, ds, F2, sF, l, ?_⟩
      cases hx : F ds with
      | ok d => rw [hx] at q2; exact q2
      | err c => rw [hx] at q2; exact fun F' H' e' C hC => q2 F' H' e' C hC
      | stuck => rw [hx] at q2; exact q2
end
end RT

namespace RT
open PySem PySem.Spec PyProof.Rows L2
/-! ### set(xs) of a list -/
section
variable {P : Program} {w : World} {A : Around} {E : Value → Shared → Prop} {s : Shared}
/-- the new set's object -/
abbrev bareSet (w : World) : Obj := { cls := .type "set", dict := none, data := .set #[] 0 (.fresh 0 0 (!w.params.followText "set-order")) }
/-- what follows the making of the set and of the list's iterator: the loop -/
theorem set_of_list {l : Addr} {items : Array Value} {Q : Value → Shared → Prop} (hh : A.handled = none) (hl : s.heap.IsList l items) (hz : items.size ≤ sizeLine)
    (loop : ∀ (B : Around) (R : Result → Shared → Prop) (s1 : Shared) (I : Addr), B.handled = none → B.units ≤ A.units + 2 → I ≠ s.heap.objs.size → s.heap.get? I = none → s1.gens = s.gens → s1.drawn = s.drawn → s1.os = s.os →
      s1.heap.get? s.heap.objs.size = some (bareSet w) → s1.heap.IsListIter I l 0 → s1.heap.IsList l items → (∀ b o, s.heap.get? b = some o → s1.heap.get? b = some o) →
      (∀ (h' : Heap) (tk : Nat), Q (.ref s.heap.objs.size) { s with heap := h', toks := tk } → R (.ok (.ret .none)) { s with heap := h', toks := tk }) →
      codeAny (model P w) B (.builtin "set.update.loop" ⟨[.ref s.heap.objs.size, .ref I], []⟩) R s1) :
    wpAny (model P w) A (call (.type "set") [.ref l]) Q E s := by
  obtain ⟨mc, mt, hmro⟩ := F.called_set.mro
  have hct := F.typeCall_set_1 (.ref l)
  have g1 := F.called_set.made
  have g2 := F.called_set.sub
  have g3 := F.called_set.notType
  have g4 := F.called_set.canCreate
  refine wpAny_call (codeAny_of_tree ?_)
  show wpAny _ _ (callAny (.type "set") _) _ _ _
  refine wpAny_pure ⟨Code.quiet_builtin _ (by decide +kernel), codeAny_builtin F.entry_type_call ?_⟩
  rw [Around.under_plain (weight_type_call_type "set" [.ref l] []) rfl]
  repeat (any_goals (first | assumption | wp_step))
  refine codeAny_mono (code_set_led1 (.ref l) (E := E) (Q₁ := fun obj s₁ => obj = .ref s.heap.objs.size ∧ s₁ = { s with heap := s.heap.push (bareSet w) }) ⟨rfl, rfl⟩) fun r s₁ hr => ?_
  cases r with
  | error e => exact hr
  | ok fl =>
    cases fl with
    | ret obj =>
      obtain ⟨rfl, rfl⟩ := hr
      have hS : (s.heap.push (bareSet w)).get? s.heap.objs.size = some (bareSet w) := Heap.get?_push_size _ rfl
      have hT : Shared.TypeIs { s with heap := s.heap.push (bareSet w) } (.ref s.heap.objs.size) "set" := ⟨_, hS, rfl⟩
      have i1 := F.called_set.init.lookup
      have i2 := F.called_set.init.bind (.ref s.heap.objs.size)
      repeat (any_goals (first | assumption | wp_step))
      refine codeAny_mono (codeAny_call_builtin (R := wants (fun r s₂ => r = .none ∧ ∃ h' tk, s₂ = { s with heap := h', toks := tk } ∧ Q (.ref s.heap.objs.size) s₂) E) F.called_set.init.plain F.entry_set_init (check_set_init_1 hT ?_)) fun r₂ s₂ hr₂ => ?_
      · obtain ⟨ol, hol, hcl, nl, hdl⟩ := hl
        obtain ⟨ocls, odict, odata, oslots⟩ := ol
        simp only at hcl hdl
        subst hcl hdl
        have hol' : (s.heap.push (bareSet w)).get? l = some { cls := .type "list", dict := odict, data := .seq items nl, slots := oslots } := Heap.get?_push_of_some _ hol
        have s1 := F.sub_list_set
        have s2 := F.sub_list_frozenset
        have s3 : (Value.type "list" == Value.type "dict") = false := by decide
        have hl1 : (s.heap.push (bareSet w)).IsList l items := ⟨_, hol', rfl, nl, rfl⟩
        unfold Builtin.«set.__init__» noKeywords Builtin.Frozenset.updateFrom
        generalize hPI : pyIter = PI
        wp_walk
        subst hPI
        refine wpAny_pyIter_list hl1 ?_
        refine wpAny_bind (wpAny_runValue ?_)
        have hsz : (s.heap.push (bareSet w)).objs.size = s.heap.objs.size + 1 := Heap.size_push ..
        have hIn : s.heap.get? (s.heap.push (bareSet w)).objs.size = none := by
          cases q : s.heap.get? (s.heap.push (bareSet w)).objs.size with
          | none => rfl
          | some o => exact absurd (Heap.lt_size q) (by rw [hsz]; exact Nat.not_lt.mpr (Nat.le_succ _))
        refine loop _ _ _ (s.heap.push (bareSet w)).objs.size (by simp [hh]) (by simp) (by rw [hsz]; exact Nat.succ_ne_self _) hIn rfl rfl rfl (Heap.get?_push_of_some _ hS) ⟨_, Heap.get?_push_size _ rfl, rfl, rfl⟩ (hl1.push _) (fun b o e => Heap.get?_push_of_some _ (Heap.get?_push_of_some _ e)) fun h' tk q => ?_
        refine wpAny_pure ?_
        show wpAny _ _ (ret Value.none) _ _ _
        exact wpAny_pure ⟨rfl, h', tk, rfl, q⟩
      · cases r₂ with
        | error e => exact hr₂
        | ok fl₂ =>
          cases fl₂ with
          | ret r =>
            obtain ⟨rfl, h', tk, rfl, q⟩ := hr₂
            repeat (any_goals (first | assumption | wp_step))
          | _ => exact hr₂.elim
    | _ => exact hr.elim
end
end RT

namespace RT
open PySem PySem.Spec PyProof.Rows L2
/-! ### the loop of set(xs): few tuples of ints, each as often as one likes -/
theorem nodup_le {α : Type} [DecidableEq α] : ∀ (l few : List α), l.Nodup → (∀ x ∈ l, x ∈ few) → l.length ≤ few.length
  | [], _, _, _ => Nat.zero_le _
  | x :: l, few, nd, h => by
    obtain ⟨n1, n2⟩ := List.nodup_cons.mp nd
    have ih := nodup_le l (few.erase x) n2 fun y hy => (List.mem_erase_of_ne (fun e : y = x => n1 (by rw [← e]; exact hy))).mpr (h y (List.mem_cons_of_mem _ hy))
    have hx : x ∈ few := h x List.mem_cons_self
    have hp := List.length_pos_of_mem hx
    rw [List.length_erase_of_mem hx] at ih
    rw [List.length_cons]
    omega
section
variable {P : Program} {w : World} {E : Value → Shared → Prop}
theorem few_loop {A : Around} {I l S : Addr} {items : Array Value} {R : Result → Shared → Prop} (ks : List (Addr × List Int)) (few : List (List Int)) (hh : A.handled = none) (hu : A.in1.units < cLine) (hlI : l ≠ I) (hSI : S ≠ I) (hSl : S ≠ l)
    (hit : items.toList = ks.map fun p => Value.ref p.1) (hf : ∀ p ∈ ks, p.2 ∈ few) (hn : few.length < 63) (h0 : Heap) (hk : ∀ p ∈ ks, IsT P w h0 p.2 p.1) (hS0 : h0.get? S = none) (hI0 : h0.get? I = none) :
    ∀ (n i : Nat) (s : Shared), items.size - i = n → i ≤ items.size → s.heap.IsListIter I l i → s.heap.IsList l items → (∀ b o, h0.get? b = some o → s.heap.get? b = some o) →
      (∃ L es ep t, SetTR P w s.heap S L es ep t ∧ (∀ p ∈ L, p ∈ ks) ∧ ∀ p ∈ ks.take i, p.2 ∈ L.map (·.2)) →
      (∀ h' tk L es ep t, SetTR P w h' S L es ep t → (∀ p ∈ L, p ∈ ks) → (∀ p ∈ ks, p.2 ∈ L.map (·.2)) → (∀ b o, h0.get? b = some o → h'.get? b = some o) → R (.ok (.ret .none)) { s with heap := h', toks := tk }) →
      codeAny (model P w) A (.builtin "set.update.loop" ⟨[.ref S, .ref I], []⟩) R s := by
  have W := (Walks.list (prog := P) (w := w) (A := A.in1) (by simpa using hh) I l hlI items).toS
  have hSf : S ∉ [I, l] := by simp [hSI, hSl]
  have hSw : S ∉ [I] := by simp [hSI]
  have later : ∀ {s s' : Shared} {G : Array GenState → Array GenState → Prop}, Moved [I] G s s' → (∀ b o, h0.get? b = some o → s.heap.get? b = some o) → ∀ b o, h0.get? b = some o → s'.heap.get? b = some o := fun hm q b o e =>
    hm.heap b o (fun hb => by rw [List.mem_singleton.mp hb, hI0] at e; cases e) (q b o e)
  have stay : ∀ {s s' : Shared} {G : Array GenState → Array GenState → Prop} {L : List (Addr × List Int)} {es ep t}, Moved [I] G s s' → (∀ b o, h0.get? b = some o → s'.heap.get? b = some o) → (∀ p ∈ L, p ∈ ks) → SetTR P w s.heap S L es ep t → SetTR P w s'.heap S L es ep t := fun hm q sub T =>
    T.keep (fun o e => hm.heap S o hSw e) fun p hp => isT_keep (hk p (sub p hp)) q
  have hsz : items.size = ks.length := by
    have := congrArg List.length hit
    simpa using this
  intro n
  induction n with
  | zero =>
    intro i s hni hi st sl hkp ⟨L, es, ep, t, T, sub, all⟩ hR
    have e : i = items.size := by omega
    subst e
    refine codeAny_builtin F.entry_set_update_loop ?_
    rw [Around.under_plainId F.plain_set_update_loop _]
    show wpAny _ A.in1 (pyNext (.ref I) >>= _) _ _ s
    refine wpAny_bind (W.done s _ _ ⟨st, sl⟩ fun s' hm => ?_)
    have q := later hm hkp
    have e := hm.eq_with
    have T' := stay hm q sub T
    rw [e]
    show wpAny _ A.in1 (ret Value.none) _ _ _
    exact wpAny_pure (hR s'.heap s'.toks L es ep t T' sub (fun p hp => all p (by rw [hsz, List.take_length]; exact hp)) q)
  | succ n ih =>
    intro i s hni hi st sl hkp ⟨L, es, ep, t, T, sub, all⟩ hR
    have hlt : i < items.size := by omega
    refine codeAny_builtin F.entry_set_update_loop ?_
    rw [Around.under_plainId F.plain_set_update_loop _]
    show wpAny _ A.in1 (pyNext (.ref I) >>= _) _ _ s
    refine wpAny_bind (W.item i s _ _ hlt ⟨st, sl⟩ fun v s' hP hst' hm => ?_)
    have hv : items.toList[i]? = some v := by rw [Array.getElem?_toList]; exact hP
    rw [hit, List.getElem?_map] at hv
    obtain ⟨p, hp, rfl⟩ := Option.map_eq_some_iff.mp hv
    have q := later hm hkp
    have e := hm.eq_with
    have T' := stay hm q sub T
    have hpk : p ∈ ks := List.mem_of_getElem? hp
    have hx : IsT P w s'.heap p.2 p.1 := isT_keep (hk p hpk) q
    have hlen : L.length ≤ few.length := by
      have := nodup_le (L.map (·.2)) few T.nd fun x hx => by
        obtain ⟨r, hr, rfl⟩ := List.mem_map.mp hx
        exact hf r (sub r hr)
      rwa [List.length_map] at this
    have htk : ks.take (i + 1) = ks.take i ++ [p] := by rw [List.take_succ, hp]; rfl
    show wpAny _ A.in1 (holding [Value.ref p.1] (setAdd S (.ref p.1)) >>= _) _ _ s'
    refine wpAny_bind (wpAny_holding ?_)
    unfold setAdd
    refine wpAny_holding ?_
    refine wpAny_bind (wpAny_pyHash_tuple hu hx ?_)
    refine add_at (s := { s' with toks := s'.toks + (p.2.length + 1) }) T' hx hu (by omega) fun b h' L' es' ep' t' hsb T2 c1 c2 => ?_
    have hb2 : ∀ b o, h0.get? b = some o → h'.get? b = some o := fun b o e => (hsb.2 b (fun z => by rw [z, hS0] at e; cases e)).trans (q b o e)
    have mem' : (∀ r ∈ L', r ∈ ks) ∧ ∀ r ∈ ks.take (i + 1), r.2 ∈ L'.map (·.2) := by
      rw [htk]
      by_cases c : p.2 ∈ L.map (·.2)
      · rw [c1 c]
        refine ⟨sub, fun r hr => ?_⟩
        rcases List.mem_append.mp hr with z | z
        · exact all r z
        · rw [List.mem_singleton.mp z]; exact c
      · have pm := c2 c
        refine ⟨fun r hr => ?_, fun r hr => ?_⟩
        · rcases List.mem_cons.mp (pm.mem_iff.mp hr) with z | z
          · rw [z]; exact hpk
          · exact sub r z
        · rw [(pm.map (·.2)).mem_iff, List.map_cons]
          rcases List.mem_append.mp hr with z | z
          · exact List.mem_cons_of_mem _ (all r z)
          · rw [List.mem_singleton.mp z]; exact List.mem_cons_self
    obtain ⟨st2, sl2⟩ := hst'
    have ext : Heap.ExtBut S s'.heap h' := hsb.extBut
    refine wpAny_pure ⟨plainId_quiet F.plain_set_update_loop _, ih (i + 1) _ (by omega) hlt (st2.extBut ext (Ne.symm hSI)) (sl2.extBut ext (Ne.symm hSl)) hb2 ⟨L', es', ep', t', T2, mem'⟩ fun h2 tk L2 es2 ep2 t2 T3 m1 m2 m3 => ?_⟩
    have := hR h2 tk L2 es2 ep2 t2 T3 m1 m2 m3
    rw [e]
    exact this
theorem set_tups {A : Around} {s : Shared} {Q : Value → Shared → Prop} {l : Addr} {items : Array Value} (ks : List (Addr × List Int)) (few : List (List Int)) (hh : A.handled = none) (hu : A.units + 4 < cLine) (hl : s.heap.IsList l items) (hz : items.size ≤ sizeLine)
    (hit : items.toList = ks.map fun p => Value.ref p.1) (hf : ∀ p ∈ ks, p.2 ∈ few) (hn : few.length < 63) (hk : ∀ p ∈ ks, IsT P w s.heap p.2 p.1)
    (h : ∀ h' tk L es ep t, SetTR P w h' s.heap.objs.size L es ep t → (∀ p ∈ L, p ∈ ks) → (∀ p ∈ ks, p.2 ∈ L.map (·.2)) → (∀ b o, s.heap.get? b = some o → h'.get? b = some o) → Q (.ref s.heap.objs.size) { s with heap := h', toks := tk }) :
    wpAny (model P w) A (call (.type "set") [.ref l]) Q E s := by
  have hll : l < s.heap.objs.size := by obtain ⟨_, e, _⟩ := hl; exact Heap.lt_size e
  have nn : s.heap.get? s.heap.objs.size = none := by
    cases q : s.heap.get? s.heap.objs.size with
    | none => rfl
    | some o => exact absurd (Heap.lt_size q) (Nat.lt_irrefl _)
  refine set_of_list hh hl hz fun B R s1 I b1 b2 b3 b4 b5 b6 b7 b8 b9 b10 b11 b12 => ?_
  have hlI : l ≠ I := fun z => by
    obtain ⟨_, e, _⟩ := hl
    rw [z, b4] at e
    cases e
  refine few_loop ks few b1 (by show B.units + 1 < cLine; omega) hlI (Ne.symm b3) (Nat.ne_of_gt hll) hit hf hn s.heap hk nn b4 _ 0 s1 rfl (Nat.zero_le _) b9 b10 b11 ⟨[], #[], 0, _, setTR_fresh b8, ⟨fun p hp => absurd hp (by simp), fun p hp => absurd hp (by simp)⟩⟩ fun h' tk L es ep t T m1 m2 m3 => ?_
  obtain ⟨h1, g1, d1, tk1, o1⟩ := s1
  simp only at b5 b6 b7
  subst b5 b6 b7
  exact b12 h' tk (h h' tk L es ep t T m1 m2 m3)
theorem set_ints {A : Around} {s : Shared} {Q : Value → Shared → Prop} {l : Addr} {items : Array Value} (ns : List Int) (hh : A.handled = none) (hl : s.heap.IsList l items) (hz : items.size ≤ sizeLine)
    (hit : IntsAre items.toList ns) (hb : ns.length + 1 < scanBound)
    (h : ∀ (h' : Heap) (tk c : Nat), SetR w h' s.heap.objs.size (fun j => decide (j ∈ ns)) c → c ≤ ns.length → (∀ b o, s.heap.get? b = some o → h'.get? b = some o) → Q (.ref s.heap.objs.size) { s with heap := h', toks := tk }) :
    wpAny (model P w) A (call (.type "set") [.ref l]) Q E s := by
  have hll : l < s.heap.objs.size := by obtain ⟨_, e, _⟩ := hl; exact Heap.lt_size e
  have nn : s.heap.get? s.heap.objs.size = none := by
    cases q : s.heap.get? s.heap.objs.size with
    | none => rfl
    | some o => exact absurd (Heap.lt_size q) (Nat.lt_irrefl _)
  refine set_of_list hh hl hz fun B R s1 I b1 b2 b3 b4 b5 b6 b7 b8 b9 b10 b11 b12 => ?_
  have hlI : l ≠ I := fun z => by
    obtain ⟨_, e, _⟩ := hl
    rw [z, b4] at e
    cases e
  have hsz : items.size = ns.length := by
    have := IntsAre.length hit
    simpa using this
  refine set_update_ints ((Walks.list (by simpa using b1) I l hlI items).toS) s.heap.objs.size (by simp only [List.mem_cons, List.not_mem_nil, or_false, not_or]; exact ⟨Ne.symm b3, Nat.ne_of_gt hll⟩) ns hsz hb (fun i v hv => ?_) _ 0 s1 rfl (Nat.zero_le _) ⟨b9, b10⟩ ⟨0, Nat.le_refl _, setR_new_at b8⟩ fun s' c hm hc hR => ?_
  · have q : items.toList[i]? = some v := by rw [Array.getElem?_toList]; exact hv
    have hi : i < ns.length := by rw [← hsz, ← Array.length_toList]; exact (List.getElem?_eq_some_iff.mp q).1
    obtain ⟨t, e⟩ := IntsAre.get hit i ns[i] (List.getElem?_eq_getElem hi)
    rw [q] at e
    exact ⟨ns[i], t, List.getElem?_eq_getElem hi, Option.some.inj e⟩
  · have e := hm.eq_with
    rw [e]
    obtain ⟨h1, g1, d1, tk1, o1⟩ := s1
    simp only at b5 b6 b7
    subst b5 b6 b7
    refine b12 s'.heap s'.toks (h s'.heap s'.toks c hR (by omega) fun b o eb => ?_)
    refine hm.heap b o (fun hb => ?_) (b11 b o eb)
    simp only [List.mem_cons, List.not_mem_nil, or_false] at hb
    rcases hb with z | z
    · rw [z, nn] at eb; cases eb
    · rw [z, b4] at eb; cases eb
end
end RT

namespace RT
open PySem PySem.Spec PyProof.Rows L2
/-! ### each once -/
section
variable {α : Type} [DecidableEq α]
theorem mem_once : ∀ {l : List α} {x : α}, x ∈ D.once l ↔ x ∈ l
  | [], x => by simp [D.once]
  | y :: l, x => by
    unfold D.once
    by_cases h : y ∈ l
    · rw [if_pos h, mem_once, List.mem_cons]
      exact ⟨.inr, fun q => q.elim (fun e => e ▸ h) id⟩
    · rw [if_neg h, List.mem_cons, List.mem_cons, mem_once]
theorem nodup_once : ∀ l : List α, (D.once l).Nodup
  | [] => List.nodup_nil
  | y :: l => by
    unfold D.once
    by_cases h : y ∈ l
    · rw [if_pos h]; exact nodup_once l
    · rw [if_neg h]; exact List.nodup_cons.mpr ⟨fun q => h (mem_once.mp q), nodup_once l⟩
end
theorem once_len {α : Type} [DecidableEq α] : ∀ l : List α, (D.once l).length ≤ l.length
  | [] => Nat.le_refl _
  | y :: l => by
    unfold D.once
    have := once_len l
    split
    · rw [List.length_cons]; omega
    · rw [List.length_cons, List.length_cons]; omega
/-- ascending without duplicates: one list for each set of members -/
theorem asc_one {a b : List Int} (ha : a.Pairwise (· < ·)) (hb : b.Pairwise (· < ·)) (h : ∀ k, k ∈ a ↔ k ∈ b) : a = b := by
  have p : a.Perm b := (List.perm_ext_iff_of_nodup (ha.imp fun h => by omega) (hb.imp fun h => by omega)).mpr h
  exact p.eq_of_pairwise (fun x y _ _ h1 h2 => absurd h1 (by omega)) ha hb
theorem asc_once (ns : List Int) : ((D.once ns).mergeSort D.upI).Pairwise (· < ·) := by
  have h1 := upI_sorted (D.once ns)
  have h2 : ((D.once ns).mergeSort D.upI).Nodup := (List.mergeSort_perm _ _).nodup_iff.mpr (nodup_once ns)
  exact List.Pairwise.imp_of_mem (fun {x y} _ _ h => by have := h.1; have := h.2; omega) (h1.and h2)
theorem code_le_lex {B : Int} : ∀ {x y : List Int}, x.length = y.length → TS.Bd B x → TS.Bd B y → TS.code B x ≤ TS.code B y → x ≤ y
  | [], [], _, _, _, _ => List.le_refl _
  | [], _ :: _, h, _, _, _ => by simp at h
  | _ :: _, [], h, _, _, _ => by simp at h
  | a :: x, b :: y, h, h1, h2, h3 => by
    have hl : x.length = y.length := by simpa using h
    rcases Int.lt_trichotomy a b with c | c | c
    · exact List.not_lt.mp fun q => by
        rcases List.cons_lt_cons_iff.mp q with z | z
        · omega
        · omega
    · subst c
      have h4 : TS.code B x ≤ TS.code B y := by
        by_cases q : TS.code B y < TS.code B x
        · exact absurd ((TS.code_same (d := a) hl.symm).mpr q) (by omega)
        · omega
      have ih := code_le_lex hl h1.tail h2.tail h4
      exact List.not_lt.mp fun q => by
        rcases List.cons_lt_cons_iff.mp q with z | z
        · omega
        · exact List.not_lt.mpr ih z.2
    · exact absurd (TS.code_lt hl.symm h2.tail h1.tail c) (by omega)
theorem upL_sorted (ls : List (List Int)) : (ls.mergeSort D.upL).Pairwise (· ≤ ·) := by
  have h := List.pairwise_mergeSort (le := D.upL) (fun a b c h1 h2 => by simp only [D.upL, decide_eq_true_eq] at *; exact List.le_trans h1 h2) (fun a b => by simp only [D.upL, Bool.or_eq_true, decide_eq_true_eq]; exact List.le_total a b) ls
  exact h.imp fun h => by simpa [D.upL] using h
theorem sortedL_one {a b : List (List Int)} (p : a.Perm b) (ha : a.Pairwise (· ≤ ·)) (hb : b.Pairwise (· ≤ ·)) : a = b := p.eq_of_pairwise (fun _ _ _ _ h1 h2 => List.le_antisymm h1 h2) ha hb
section
variable {X : Cx}
/-- set(xs): a list of ints, or of tuples of ints of few kinds -/
def rSetX (K : PySem.W.Frag) (P : Program) (w : World) : List V → Hp → VK → Prop := fun xs H Q => ∃ l : Addr, xs = [V.ref l] ∧
  ((∃ ns : List Int, SqL K H l (ns.map V.int) ∧ ns.length + 1 < scanBound ∧ ∀ a c, c ≤ ns.length → H a = none → Q (.ref a) (upd H a (SetO w a (fun j => decide (j ∈ ns)) c))) ∨
   ∃ (ks : List (Addr × List Int)) (few : List (List Int)), SqL K H l (ks.map fun p => V.ref p.1) ∧ (∀ p ∈ ks, SqT K H p.1 (p.2.map V.int)) ∧ (∀ p ∈ ks, p.2 ∈ few) ∧ few.length < 63 ∧
    ∀ a L, H a = none → (∀ p ∈ L, p ∈ ks) → (∀ p ∈ ks, p.2 ∈ L.map (·.2)) → Q (.ref a) (upd H a (SetTO P w a L)))
theorem cr_setX (hc : X.calm = true) (hu : X.A.units + 64 < cLine) : CallR X (.type "set") (rSetX X.K X.prog X.w) := by
  intro pins s σ H xs us Q I r h
  obtain ⟨l, rfl, h⟩ := h
  rw [Vals.ref1 r]
  have hn : H s.heap.objs.size = none := I.hok.fresh (Nat.le_refl _)
  rcases h with ⟨ns, hl, hb, q⟩ | ⟨ks, few, hl, hk, hf, hn1, q⟩
  · obtain ⟨its, rv, pl, hz⟩ := I.list hl
    refine set_ints (P := X.prog) (w := X.w) ns (I.ok.hd hc) pl.isList (by rw [List.size_toArray, ← rv.length]; exact hz) (by simpa using rv.ints) hb fun h' tk c R hcl k => ?_
    exact ⟨.ref s.heap.objs.size, _, I.laid (t' := tk) k (Nat.le_refl _) (setO_new R), rfl, q _ c hcl hn⟩
  · obtain ⟨its, rv, pl, hz⟩ := I.list hl
    refine set_tups (P := X.prog) (w := X.w) ks few (I.ok.hd hc) (by omega) pl.isList (by rw [List.size_toArray, ← rv.length]; exact hz) (by simpa using refs_of_vals rv) hf hn1 (fun p hp => I.isT (hk p hp)) fun h' tk L es ep t R m1 m2 k => ?_
    exact ⟨.ref s.heap.objs.size, _, I.laid (t' := tk) k (Nat.le_refl _) (setTO_new R.t0), rfl, q _ L hn m1 m2⟩
/-- sorted of a set of ints -/
theorem sorted_setI {P : Program} {w : World} {A : Around} {E : Value → Shared → Prop} {s : Shared} {a : Addr} {S : Int → Bool} {n : Nat} {Q : Value → Shared → Prop} (R : SetR w s.heap a S n) (hh : A.handled = none) (hz : n ≤ sizeLine)
    (hQ : ∀ s' p (out : Array Value) (c : Nat) (ns : List Int), (∀ b o, s.heap.get? b = some o → s'.heap.get? b = some o) → s'.gens = s.gens → s'.os = s.os → s.heap.objs.size ≤ p →
      s'.heap.get? p = some (seqObj "list" out c) → IntsAre out.toList ns → ns.Pairwise (· < ·) → (∀ k, k ∈ ns ↔ S k = true) → ns.length = n → Q (.ref p) s') :
    wpAny (model P w) A (call (.builtin "sorted") [.ref a]) Q E s := by
  obtain ⟨o, es, ep, t, ho, hex, hd, g, nd, hm, hb, hf, hn, hr, hl⟩ := R
  refine Calls.call_function_entry kind_sorted plain_sorted entry_sorted (args_sorted1 _) ?_
  unfold Builtin.«sorted»
  refine wpAny_bind (m := checkCount "sorted" 1 1 _) (wpAny_pure ?_)
  refine wpAny_bind (collect_set (A := A.in1) hh ⟨o, ho, hex.1, hd⟩ hf hb hr hl fun s1 vs k1 z1 g1 o1 pm => ?_)
  have len : vs.length = n := by rw [pm.length_eq, List.length_map, Array.length_toList]; exact hn
  have hIv : IntsAre vs (vs.map Builtin.Re.reRawOf) := ints_of vs fun v hv => by
    obtain ⟨e, he, q⟩ := List.mem_map.mp (pm.mem_iff.mp hv)
    obtain ⟨k, tk, h1, _⟩ := g e he
    exact ⟨k, tk, by rw [← q]; exact h1⟩
  have keys : (vs.map Builtin.Re.reRawOf).Perm (es.toList.map keyOf) := by
    have := pm.map Builtin.Re.reRawOf
    rwa [List.map_map] at this
  refine wpAny_bind (wpAny_newList ?_ (by rw [len]; exact hz))
  have new : (s1.heap.push (seqObj "list" vs.toArray 0)).get? s1.heap.objs.size = some (seqObj "list" vs.toArray 0) := Heap.get?_push_size _ rfl
  refine wpAny_bind (wpAny_holding (wpAny_call_entry slot_list_sort ⟨_, new, rfl⟩ entry_list_sort (list_sort_treeAny new hIv (by rw [len]; exact hz) fun out ns' a1 a2 a3 => ⟨_, rfl, ?_⟩) (args_list_sort _)))
  obtain ⟨c, hc⟩ := sortedHeap_at (vs := vs) (out := out) new
  have pn : ns'.Perm (es.toList.map keyOf) := a2.trans keys
  have asc : ns'.Pairwise (· < ·) := List.Pairwise.imp_of_mem (fun {x y} _ _ h => by have := h.1; have := h.2; omega) (a3.and (pn.nodup_iff.mpr nd))
  refine wpAny_pure ⟨_, rfl, hQ _ s1.heap.objs.size out c ns' (fun b u e => ?_) g1 o1 z1 hc a1 asc (fun k => by rw [pn.mem_iff, ← hm k]) (by rw [pn.length_eq, List.length_map, Array.length_toList]; exact hn)⟩
  have q := k1 b u e
  have lt := Heap.lt_size q
  show (sortedHeap (s1.heap.push (seqObj "list" vs.toArray 0)) s1.heap.objs.size vs out).get? b = some u
  rw [sortedHeap_old (Nat.ne_of_lt lt) (by rw [size_push']; exact Nat.lt_succ_of_lt lt)]
  exact Heap.get?_push_of_some _ q
/-- sorted(s), s a set of ints -/
def rSortedSI (w : World) : List V → Hp → VK → Prop := fun vs H Q => ∃ (a : Addr) (S : Int → Bool) (n : Nat), vs = [V.ref a] ∧ H a = some (SetO w a S n) ∧ n ≤ sizeLine ∧
  ∀ (ns : List Int) (p : Addr), ns.Pairwise (· < ·) → (∀ k : Int, k ∈ ns ↔ S k = true) → ns.length = n → H p = none → Q (.ref p) (upd H p (.lst (ns.map V.int)))
theorem cr_sortedSI (hc : X.calm = true) : CallR X (.builtin "sorted") (rSortedSI X.w) := by
  intro pins s σ H vs us Q I r h
  obtain ⟨a, S, n, rfl, ha, hz, q⟩ := h
  rw [Vals.ref1 r]
  refine sorted_setI (setO_get I ha) (I.ok.hd hc) hz fun s' p out c ns k g o hp hg hi hs hm hl => ?_
  have hn : H p = none := I.hok.fresh hp
  obtain ⟨h1, g1, d1, t1, o1⟩ := s'
  simp only at g o
  subst g o
  exact ⟨.ref p, upd H p (.lst (ns.map V.int)), I.call (ch := []) (Un.laid k hp hn) (I.hok.laid k hp ⟨by rw [List.length_map, hl]; exact hz, out.toList, c, vals_of_ints hi, hg⟩) I.bare (fun _ z => nomatch z), rfl, q ns p hs hm hl hn⟩
end
end RT

namespace RT
open PySem PySem.Spec PyProof.Rows L2
/-! ### sorted(set(xs)) -/
theorem tups_ks {K : PySem.W.Frag} {mg : Str → Option Value} {F : Hp} : ∀ {ls : List (List Int)} {vs : List V}, RepL K mg F (ls.map D.tupI) vs → ∃ ks : List (Addr × List Int), vs = ks.map (fun p => V.ref p.1) ∧ ks.map (·.2) = ls ∧ ∀ p ∈ ks, Rep K mg F (D.tupI p.2) (.ref p.1)
  | [], vs, h => by simp only [List.map_nil, RepL] at h; subst h; exact ⟨[], rfl, rfl, fun _ h => nomatch h⟩
  | l :: ls, vs, h => by
    simp only [List.map_cons, RepL] at h
    obtain ⟨v, vs', rfl, h1, h⟩ := h
    obtain ⟨ks, e1, e2, e3⟩ := tups_ks h
    have h1' := h1
    simp only [D.tupI, Rep] at h1'
    obtain ⟨a, ws, rfl, _⟩ := h1'
    refine ⟨(a, l) :: ks, by rw [e1]; rfl, by rw [← e2]; rfl, fun p hp => ?_⟩
    rcases List.mem_cons.mp hp with z | z
    · rw [z]; exact h1
    · exact e3 p z
theorem tup_sq {K : PySem.W.Frag} {mg : Str → Option Value} {F H : Hp} {l : List Int} {a : Addr} (s : Same F H) (h : Rep K mg F (D.tupI l) (.ref a)) : SqT K H a (l.map V.int) := by
  simp only [D.tupI, Rep] at h
  obtain ⟨b, ws, e, h1, h2, _⟩ := h
  cases e
  have := repL_ints h2
  subst this
  exact SqT.of (s _ _ h1)
theorem ks_rep {K : PySem.W.Frag} {mg : Str → Option Value} {F : Hp} : ∀ {ks : List (Addr × List Int)}, (∀ p ∈ ks, Rep K mg F (D.tupI p.2) (.ref p.1)) → RepL K mg F ((ks.map (·.2)).map D.tupI) (ks.map fun p => V.ref p.1)
  | [], _ => by simp [RepL]
  | p :: ks, h => by
    simp only [List.map_cons, RepL]
    exact ⟨.ref p.1, _, rfl, h p (by simp), ks_rep fun q hq => h q (List.mem_cons_of_mem _ hq)⟩
section
variable {X : Cx} {O : List Nat} {W : WX} {f : EF} {a : Expr} {pos p p2 q : Pos}
theorem scan4000 : 4000 < scanBound := by decide
theorem cr_sortSet (hc : X.calm = true) : CallR X (.builtin "sorted") (fun vs H Q => rSortedSI X.w vs H Q ∨ rSortedT X.K X.prog X.w vs H Q) := by
  intro pins s σ H vs us Q I r h
  rcases h with h | h
  · exact cr_sortedSI hc pins s σ H vs us Q I r h
  · exact cr_sortedT hc pins s σ H vs us Q I r h
theorem pd_sortSet (hc : X.calm = true) (hu : X.A.units + 64 < cLine) (hg : Gl X "sorted") (hm : X.mg "sorted" = none) (hv : bootBuiltins "sorted" = some (.builtin "sorted")) (hg2 : Gl X "set") (hm2 : X.mg "set" = none) (hv2 : bootBuiltins "set" = some (.type "set"))
    (ha : PAD X .look O W (aC f aN) [a])
    (he2 : starEach [a] X.env = (false, eval a X.env) :: starEach [] X.env := by rfl) (hpl : (backTo q (starEach [] X.env)).any (·.1) = false := by rfl) (hpl2 : (backTo pos (starEach [] X.env)).any (·.1) = false := by rfl)
    (he : starEach [.Call (.Name "set" p2) [a] [] q] X.env = (false, eval (.Call (.Name "set" p2) [a] [] q) X.env) :: starEach [] X.env := by rfl) :
    PD X .fresh O W (eF D.bSortSet (aC f aN)) (.Call (.Name "sorted" p) [.Call (.Name "set" p2) [a] [] q] [] pos) :=
  PE.imp (pe_callB (cr_sortSet hc) hg hm hv (pa_cons (pe_callTy (cr_setX hc hu) hg2 hm2 hv2 ha (by decide) (by decide) he2 hpl) pa_nil he) (by decide) (by decide) he hpl2) fun σ H Q ⟨ρ, F', s, g⟩ => ⟨ρ, F', s, Goal.bindA g fun ds vs F1 H1 ed e1 l g => by
    have l' : LookL X.K X.mg F1 H1 ds vs := l
    have one : ∃ d, ds = [d] := by
      unfold aC aN at ed
      cases hf : f ρ with
      | ok d => rw [hf] at ed; cases ed; exact ⟨d, rfl⟩
      | err _ => rw [hf] at ed; cases ed
      | stuck => rw [hf] at ed; cases ed
    obtain ⟨d, rfl⟩ := one
    obtain ⟨v, rfl, k⟩ := l'.one'
    cases d with
    | lst xs =>
      obtain ⟨a0, vs, rfl, h1, h2, h3⟩ := k.lst
      refine ⟨a0, rfl, ?_⟩
      simp only [D.bSortSet] at g
      split at g
      · rename_i ns hn
        have := intsOf_of hn
        subst this
        have := repL_ints h2
        subst this
        split at g
        · rename_i hlt
          refine .inl ⟨ns, SqL.of h1, by have := scan4000; omega, fun b c hcl hb => .inl ⟨b, _, c, rfl, upd_same, ?_, fun ns' p' asc mem len hp' => ?_⟩⟩
          · rw [sizeLine_eq]; omega
          · have e : ns' = (D.once ns).mergeSort D.upI := asc_one asc (asc_once ns) fun k => by
              rw [mem k, (List.mergeSort_perm _ _).mem_iff, mem_once]; simp
            subst e
            refine gLst (K := X.K) (mg := X.mg) (F := F1) (H := upd H1 b (SetO X.w b (fun j => decide (j ∈ ns)) c)) (Ext.newH e1.fh hb).fh repL_of_ints ?_ (Goal.ext g (Ext.newH e1.fh hb)) p' hp'
            rw [List.length_map, len, sizeLine_eq]; omega
        · exact g.elim
      · split at g
        · rename_i ls hl
          obtain ⟨e, hne⟩ := tupsOf_of hl
          subst e
          split at g
          · rename_i hcond
            simp only [Bool.and_eq_true, decide_eq_true_eq, List.all_eq_true] at hcond
            obtain ⟨hfew, hall⟩ := hcond
            obtain ⟨ks, rfl, rfl, hks⟩ := tups_ks h2
            refine .inr ⟨ks, D.once (ks.map (·.2)), SqL.of h1, fun r hr => tup_sq e1.fh (hks r hr), fun r hr => mem_once.mpr (List.mem_map.mpr ⟨r, hr, rfl⟩), hfew, fun b L hb m1 m2 => .inr ?_⟩
            have hd : ∀ r ∈ ks, r.2.length = ((ks.map (·.2)).headD []).length ∧ TS.Bd 64 r.2 := fun r hr => by
              obtain ⟨g1, g2⟩ := hall r.2 (List.mem_map.mpr ⟨r, hr, rfl⟩)
              refine ⟨g2, fun m hm' => ?_⟩
              have := List.all_eq_true.mp g1 m hm'
              simpa using this
            have hd1 : 1 ≤ ((ks.map (·.2)).headD []).length := by
              cases ks with
              | nil =>
                have no : D.intsOf ((([] : List (Addr × List Int)).map (·.2)).map D.tupI) = none := by assumption
                cases no
              | cons r ks =>
                have := hne r.2 (by simp)
                exact List.length_pos_iff.mpr this
            have ex := Ext.newH (o := SetTO X.prog X.w b L) e1.fh hb
            refine ⟨b, L, _, 64, rfl, upd_same, fun r hr => tup_sq ex.fh (hks r (m1 r hr)), hd1, fun r hr => hd r (m1 r hr), fun L' p' pm nd few' pw hp' => ?_⟩
            have sub : ∀ r ∈ L', r ∈ ks := fun r hr => m1 r (pm.mem_iff.mp hr)
            have e : L'.map (·.2) = (D.once (ks.map (·.2))).mergeSort D.upL := by
              refine sortedL_one ?_ ?_ (upL_sorted _)
              · refine (List.perm_ext_iff_of_nodup nd ((List.mergeSort_perm _ _).nodup_iff.mpr (nodup_once _))).mpr fun x => ?_
                rw [(List.mergeSort_perm _ _).mem_iff, mem_once, (pm.map (·.2)).mem_iff]
                constructor
                · intro hx
                  obtain ⟨r, hr, rfl⟩ := List.mem_map.mp hx
                  exact List.mem_map.mpr ⟨r, m1 r hr, rfl⟩
                · intro hx
                  obtain ⟨r, hr, rfl⟩ := List.mem_map.mp hx
                  exact m2 r hr
              · rw [List.pairwise_map]
                refine List.Pairwise.imp_of_mem (fun {x y} hx hy h => ?_) pw
                have dx := hd x (sub x hx)
                have dy := hd y (sub y hy)
                exact code_le_lex (by rw [dx.1, dy.1]) dx.2 dy.2 h
            rw [← e] at g
            refine gLst (K := X.K) (mg := X.mg) (F := F1) ex.fh (ks_rep fun r hr => hks r (sub r hr)) ?_ (Goal.ext g ex) p' hp'
            rw [List.length_map, List.length_map, sizeLine_eq]; omega
          · exact g.elim
        · exact g.elim
    | _ => exact g.elim⟩
end
end RT

namespace RT
open PySem PySem.Spec PyProof.Rows L2
/-! ### dicts of whole numbers -/
theorem valV_dct (ks : List Int) (k : Int) : valV (dctKV ks) (Sum.inl k) = if ks.contains k = true then some (V.bl true) else none := by
  induction ks with
  | nil => rfl
  | cons j ks ih =>
    unfold valV at ih ⊢
    rw [dctKV, List.map_cons, List.find?_cons]
    by_cases h : j = k
    · subst h
      simp
    · have : decide ((Sum.inl j : Key) = Sum.inl k) = false := decide_eq_false fun e => h (Sum.inl.inj e)
      rw [this]
      have h2 : (j :: ks).contains k = ks.contains k := by simp [List.contains_cons, Ne.symm h]
      rw [h2]
      exact ih
theorem dct_any (ks : List Int) (k : Int) : (dctKV ks).any (fun kv => decide (kv.1 = Sum.inl k)) = ks.contains k := by
  rw [valV_any, valV_dct]
  split
  · rename_i h; rw [h]; rfl
  · rename_i h; simp only [Bool.not_eq_true] at h; rw [h]; rfl
theorem putK_dct (ks : List Int) (k : Int) : putK (dctKV ks) (Sum.inl k) (V.bl true) = dctKV (D.dput ks k) := by
  unfold putK D.dput
  rw [dct_any]
  by_cases h : ks.contains k = true
  · rw [if_pos h, if_pos h]
    conv => rhs; rw [← List.map_id (dctKV ks)]
    apply List.map_congr_left
    intro p hp
    obtain ⟨j, _, rfl⟩ := List.mem_map.mp hp
    by_cases e : (Sum.inl j : Key) = Sum.inl k
    · rw [if_pos e]; rfl
    · rw [if_neg e]; rfl
  · rw [if_neg h, if_neg h]
    simp [dctKV]
theorem dput_len (ks : List Int) (k : Int) : (D.dput ks k).length ≤ ks.length + 1 := by
  unfold D.dput
  split
  · omega
  · rw [List.length_append, List.length_singleton]; omega
theorem valV_dtt (ks : List (List Int)) (k : List Int) : valV (dttKV ks) (k.map Sum.inl) = if ks.contains k = true then some (V.bl true) else none := by
  have inj : ∀ {a b : List Int}, (a.map Sum.inl : List Key) = b.map Sum.inl → a = b := fun {a b} h => by
    induction a generalizing b with
    | nil => cases b with
      | nil => rfl
      | cons _ _ => cases h
    | cons x a ih => cases b with
      | nil => cases h
      | cons y b =>
        rw [List.map_cons, List.map_cons] at h
        injection h with h1 h2
        rw [Sum.inl.inj h1, ih h2]
  induction ks with
  | nil => rfl
  | cons j ks ih =>
    unfold valV at ih ⊢
    rw [dttKV, List.map_cons, List.find?_cons]
    by_cases h : j = k
    · subst h
      simp
    · have : decide ((j.map Sum.inl : List Key) = k.map Sum.inl) = false := decide_eq_false fun e => h (inj e)
      rw [this]
      have h2 : (j :: ks).contains k = ks.contains k := by simp [List.contains_cons, Ne.symm h]
      rw [h2]
      exact ih
section
variable {X : Cx} {O O' : List Nat} {W : WX} {f g : EF} {e a b : Expr} {pos p1 p2 : Pos}
/-- {} -/
theorem pd_dnew : PD X .fresh O W (eC (.dct [])) (.Dict [] [] pos) :=
  PE.imp pe_dnewK fun σ H Q ⟨ρ, F, s, q⟩ => fun p hp => q (.ref p) F _ (Ext.newH s.sub hp) ⟨own_dct upd_same (s.sub.free hp) (Nat.zero_le _), fun o z x hx => by
    cases z
    rw [foot_dct (H := upd H p (.dK [])) (a := p) upd_same] at hx
    rw [List.mem_singleton.mp hx]; exact hp⟩
theorem din_get {K : PySem.W.Frag} {mg : Str → Option Value} {F H : Hp} {d1 d2 : D} {x y : V} {r : Bool} (s : Same F H) (l1 : Look K mg F H d1 y) (l2 : Look K mg F H d2 x) (h : D.dIn d1 d2 = .ok (.bl r)) : ∃ a o, x = .ref a ∧ DGet H a y o ∧ o.isSome = r := by
  cases d1 with
  | int k =>
    cases d2 with
    | dct ks =>
      cases Look.int l1
      obtain ⟨a, rfl, h1⟩ := l2
      cases h
      refine ⟨a, _, rfl, DGet.k (k := .inl k) h1, ?_⟩
      rw [valV_dct]
      by_cases hc : ks.contains k = true
      · rw [if_pos hc, hc]; rfl
      · rw [if_neg hc]; simp only [Bool.not_eq_true] at hc; rw [hc]; rfl
    | _ => cases h
  | tup xs =>
    cases d2 with
    | dtt kss =>
      simp only [D.dIn] at h
      split at h
      · rename_i l hl
        cases h
        have := intsOf_of hl
        subst this
        obtain ⟨b, vs, rfl, g1, g2, _⟩ := l1.tup s
        have := repL_ints g2
        subst this
        have l2' : Rep K mg F (.dtt kss) x := l2
        simp only [Rep] at l2'
        obtain ⟨a, rfl, h1⟩ := l2'
        refine ⟨a, _, rfl, .inr ⟨_, l.map Sum.inl, b, .inl (s _ _ h1), rfl, ?_, rfl⟩, ?_⟩
        · rw [g1, List.map_map]; rfl
        · rw [valV_dtt]
          by_cases hc : kss.contains l = true
          · rw [if_pos hc, hc]; rfl
          · rw [if_neg hc]; simp only [Bool.not_eq_true] at hc; rw [hc]; rfl
      · cases h
    | _ => cases h
  | _ => cases d2 <;> cases h
theorem dIn_cases (d1 d2 : D) : (∃ r, D.dIn d1 d2 = .ok (.bl r) ∧ D.dNotIn d1 d2 = .ok (.bl (!r))) ∨ (D.dIn d1 d2 = .stuck ∧ D.dNotIn d1 d2 = .stuck) := by
  cases d1 with
  | int k => cases d2 <;> first | exact .inl ⟨_, rfl, rfl⟩ | exact .inr ⟨rfl, rfl⟩
  | tup xs =>
    cases d2 with
    | dtt kss =>
      cases hl : D.intsOf xs with
      | none => exact .inr ⟨by simp only [D.dIn, hl], by simp only [D.dNotIn, hl]⟩
      | some l => exact .inl ⟨kss.contains l, by simp only [D.dIn, hl], by simp only [D.dNotIn, hl]⟩
    | _ => exact .inr ⟨rfl, rfl⟩
  | _ => cases d2 <;> exact .inr ⟨rfl, rfl⟩
theorem tD_din {σ : L2.St} {H : Hp} {Q : VK} (q : tD X.K X.mg .fresh O W (e2 D.dIn f g) σ H Q) : tDIn (tD X.K X.mg .look O W f) (tD X.K X.mg .look O W g) σ H Q := by
  obtain ⟨ρ, F, s, q⟩ := q
  refine ⟨ρ, F, s, Goal.bind q fun d1 y F1 H1 _ e1 l1 q1 => ⟨ρ, F1, s.ext e1, Goal.bind q1 fun d2 x F2 H2 _ e2 l2 q2 => ?_⟩⟩
  rcases dIn_cases d1 d2 with ⟨r, h1, -⟩ | ⟨h1, -⟩
  · obtain ⟨a, o, rfl, h2, h3⟩ := din_get (K := X.K) (mg := X.mg) e2.fh (Look.ext l1 e2) l2 h1
    rw [h1] at q2
    exact ⟨a, o, rfl, h2, by rw [h3]; exact gBl e2.fh q2⟩
  · rw [h1] at q2; exact q2.elim
theorem tD_dnotin {σ : L2.St} {H : Hp} {Q : VK} (q : tD X.K X.mg .fresh O W (e2 D.dNotIn f g) σ H Q) : tDNotIn (tD X.K X.mg .look O W f) (tD X.K X.mg .look O W g) σ H Q := by
  obtain ⟨ρ, F, s, q⟩ := q
  refine ⟨ρ, F, s, Goal.bind q fun d1 y F1 H1 _ e1 l1 q1 => ⟨ρ, F1, s.ext e1, Goal.bind q1 fun d2 x F2 H2 _ e2 l2 q2 => ?_⟩⟩
  rcases dIn_cases d1 d2 with ⟨r, h1, h0⟩ | ⟨-, h0⟩
  · obtain ⟨a, o, rfl, h2, h3⟩ := din_get (K := X.K) (mg := X.mg) e2.fh (Look.ext l1 e2) l2 h1
    rw [h0] at q2
    exact ⟨a, o, rfl, h2, by rw [h3]; exact gBl e2.fh q2⟩
  · rw [h0] at q2; exact q2.elim
/-- k in d, k not in d -/
theorem pd_din (hu : X.A.units + 64 < cLine) (ha : PD X .look O W f a) (hb : PD X .look O W g b) (hm : behindInMarks .In b = false := by rfl) : PD X .fresh O W (e2 D.dIn f g) (.Compare a [.In] [b] pos) := PE.imp (pe_cmp (pc_din (by omega) ha hb) hm) fun σ H Q q => tD_din q
theorem pd_dnotin (hu : X.A.units + 64 < cLine) (ha : PD X .look O W f a) (hb : PD X .look O W g b) (hm : behindInMarks .NotIn b = false := by rfl) : PD X .fresh O W (e2 D.dNotIn f g) (.Compare a [.NotIn] [b] pos) := PE.imp (pe_cmp (pc_dnotin (by omega) ha hb) hm) fun σ H Q q => tD_dnotin q
theorem ptd_din (hu : X.A.units + 64 < cLine) (ha : PD X .look O W f a) (hb : PD X .look O W g b) (hm : behindInMarks .In b = false := by rfl) : PTD X O W (tV (e2 D.dIn f g)) (.Compare a [.In] [b] pos) :=
  PT.imp (pt_cmp (pc_din (by omega) ha hb) hm) fun σ H Q q => tT_of (t := tDIn (tD X.K X.mg .look O W f) (tD X.K X.mg .look O W g)) (fun Q ⟨ρ, F, s, q⟩ => tD_din ⟨ρ, F, s, q.fl⟩) q
theorem ptd_dnotin (hu : X.A.units + 64 < cLine) (ha : PD X .look O W f a) (hb : PD X .look O W g b) (hm : behindInMarks .NotIn b = false := by rfl) : PTD X O W (tV (e2 D.dNotIn f g)) (.Compare a [.NotIn] [b] pos) :=
  PT.imp (pt_cmp (pc_dnotin (by omega) ha hb) hm) fun σ H Q q => tT_of (t := tDNotIn (tD X.K X.mg .look O W f) (tD X.K X.mg .look O W g)) (fun Q ⟨ρ, F, s, q⟩ => tD_dnotin ⟨ρ, F, s, q.fl⟩) q
/-- d[k] = True, d a dict of one's own -/
theorem psd_dput {i : Nat} {x : Str} {k : Expr} {j : Nat} {p3 : Pos} (hu : X.A.units + 64 < cLine) (hi : i ∈ O) (h1 : PE X (.Name x p1) (tVar i)) (hk : PD X .look O W g k)
    (ha : ∀ v, assign (.Subscript (.Name x p1) k p2) X.env v = (do
      let ov ← holding [v] (eval (.Name x p1) X.env)
      let iv ← holding [v, ov] (eval k X.env)
      standAt p2
      holding [v, ov, iv] (setItem ov iv v)
      release [v, ov, iv] []) := by intro _; rfl)
    (hs : swapsWithSole [.Subscript (.Name x p1) k p2] (.Constant (.bool true) j p3) pos.line X.env = pure false := by rfl) (hw : swappedStores [.Subscript (.Name x p1) k p2] (.Constant (.bool true) j p3) X.env = pure none := by rfl)
    (hh : (assignEach [.Subscript (.Name x p1) k p2] X.env).map (·.2) = [assign (.Subscript (.Name x p1) k p2) X.env] := by rfl) :
    PSD X O O W (sDPut i g) (.Assign [.Subscript (.Name x p1) k p2] (.Constant (.bool true) j p3) pos) := fun B =>
  PS.imp (ps_asg (pe_bl (b := true)) (pg_sub h1 hk (set_dict (by omega)) ha) hs hw hh) fun E σ H ⟨ρ, F, sb, q⟩ => by
    unfold sDPut at q
    split at q
    · rename_i ks hr
      obtain ⟨o, h2, h3, h4⟩ := sb.sr.own i _ hr hi
      obtain ⟨h3, hz0⟩ := h3
      refine ⟨_, h2, ρ, F, sb.sr, GoalS.val sb q fun d w F1 H1 _ e1 r q => ?_⟩
      cases d with
      | int k =>
        cases Look.int (K := X.K) (mg := X.mg) (F := F1) (H := H1) r
        simp only at q
        split at q
        · rename_i hz
          rw [lim_eq] at hz
          have h3' := e1.hh _ _ h3
          have sb1 := sb.extend e1
          refine ⟨o, _, rfl, .inl ⟨dctKV ks, .inl k, h3', rfl, by rw [dctKV, List.length_map]; exact hz, rfl⟩, q σ F1 _ (sb1.change hi hr h2 (d := .dct (D.dput ks k)) (fun x y hx e => ?_) ⟨?_, ?_⟩ fun x hx => .inl ?_)⟩
          · rw [foot_dct h3', List.mem_singleton] at hx
            rw [upd_ne hx]; exact e
          · rw [putK_dct]; exact upd_same
          · have := dput_len ks k
            omega
          · rw [foot_dct h3']
            rw [foot_dct upd_same] at hx
            exact hx
        · exact q.elim
      | _ => exact q.elim
    · exact q.elim
end
end RT

namespace RT
open PySem PySem.Spec PyProof.Rows L2
/-! ### a comprehension over one's own dict -/
def del (F : Hp) (d : Addr) : Hp := fun b => if b = d then none else F b
theorem del_ne {F : Hp} {d b : Addr} (h : b ≠ d) : del F d b = F b := by unfold del; rw [if_neg h]
theorem del_same {F : Hp} {d : Addr} : del F d d = none := by unfold del; rw [if_pos rfl]
section
variable {K : PySem.W.Frag} {mg : Str → Option Value} {F : Hp} {d : Addr} {od : Obj} {kv : List (Key × V)}
theorem del_get (h : F d = some (.frz od (.dK kv))) {a : Addr} {o : HO} (e : F a = some o) (ne : o ≠ .frz od (.dK kv)) : del F d a = some o := by
  have : a ≠ d := fun z => by subst z; rw [h] at e; exact ne (Option.some.inj e).symm
  rw [del_ne this]; exact e
mutual
theorem Rep.del (h : F d = some (.frz od (.dK kv))) : ∀ (x : D) (v : V), Rep K mg F x v → Rep K mg (RT.del F d) x v
  | .non, _, r => by simpa [Rep] using r
  | .bl _, _, r => by simpa [Rep] using r
  | .int _, _, r => by simpa [Rep] using r
  | .str _, _, r => by simpa [Rep] using r
  | .tup ds, v, r => by
    simp only [Rep] at r ⊢
    obtain ⟨a, vs, e1, e2, e3, e4⟩ := r
    exact ⟨a, vs, e1, del_get h e2 (fun z => nomatch z), RepL.del h ds vs e3, e4⟩
  | .lst ds, v, r => by
    simp only [Rep] at r ⊢
    obtain ⟨a, vs, e1, e2, e3, e4⟩ := r
    exact ⟨a, vs, e1, del_get h e2 (fun z => nomatch z), RepL.del h ds vs e3, e4⟩
  | .exc _ _, _, r => by simpa [Rep] using r
  | .fn _, _, r => by simpa [Rep] using r
  | .scr ns, _, r => by
    simp only [Rep] at r ⊢
    obtain ⟨a, e1, e2, e3⟩ := r
    refine ⟨a, e1, ?_, e3⟩
    rcases e2 with (e2 | ⟨o, e2⟩) | e2
    · exact .inl (.inl (del_get h e2 (fun z => nomatch z)))
    · exact .inl (.inr ⟨o, del_get h e2 (fun z => by injection z with _ z; exact nomatch z)⟩)
    · exact .inr e2
  | .dct _, _, r => by
    simp only [Rep] at r ⊢
    obtain ⟨a, e1, e2⟩ := r
    exact ⟨a, e1, del_get h e2 (fun z => nomatch z)⟩
  | .dtt _, _, r => by
    simp only [Rep] at r ⊢
    obtain ⟨a, e1, e2⟩ := r
    exact ⟨a, e1, del_get h e2 (fun z => nomatch z)⟩
  | .clk _ _ _ _, _, r => by simpa [Rep] using r
theorem RepL.del (h : F d = some (.frz od (.dK kv))) : ∀ (xs : List D) (vs : List V), RepL K mg F xs vs → RepL K mg (RT.del F d) xs vs
  | [], _, r => by simpa [RepL] using r
  | x :: xs, vs, r => by
    simp only [RepL] at r ⊢
    obtain ⟨v, vs', e1, e2, e3⟩ := r
    exact ⟨v, vs', e1, Rep.del h x v e2, RepL.del h xs vs' e3⟩
end
end
theorem ItD.keys {K : PySem.W.Frag} {mg : Str → Option Value} {F : Hp} {d : Addr} {od : Obj} {ks : List Int} (h : F d = some (.frz od (.dK (dctKV ks)))) (z : ks.length ≤ sizeLine) : ItD K mg (Itk d od (dctKV ks)) F (ks.map .int) := by
  have hl : (dctKV ks).length = ks.length := List.length_map _
  refine ⟨by rw [List.length_map]; exact z, fun i F1 H1 s1 s2 => ⟨fun x hx => ?_, fun e => ?_⟩⟩
  · have hd := s2 _ _ (s1 _ _ h)
    rw [List.getElem?_map] at hx
    obtain ⟨k, hk, rfl⟩ := Option.map_eq_some_iff.mp hx
    refine ⟨⟨hd, by rw [hl]; exact (List.getElem?_eq_some_iff.mp hk).1⟩, fun v H' y => ?_⟩
    obtain ⟨rfl, k', v', h1, rfl⟩ := y
    rw [dctKV, List.getElem?_map, hk] at h1
    cases h1
    exact ⟨F1, .refl s2, by simp [Rep, kV]⟩
  · exact ⟨s2 _ _ (s1 _ _ h), by rw [hl, e, List.length_map]; exact Nat.le_refl _⟩
section
variable {X : Cx} {O O' ts : List Nat} {W : WX} {g : GF} {t : TF} {e : EF} {elt tg : Expr} {ifs : List Expr} {scope : Scope} {own : List (Str × Nat)} {pos p1 : Pos} {i : Nat} {x : Str}
theorem tLcD {vs : List Nat} {σ : L2.St} {H : Hp} {Q : VK} (hts : ∀ j, j ∈ ts → j ∈ vs) (hi : i ∈ O) (q : tD X.K X.mg .fresh O W (eCompD i vs g t e) σ H Q) :
    tLockE (tLc (iKeys (tVar i)) (tGD X.K X.mg O ts g) (tT X.K X.mg O WF t) (tD X.K X.mg .rep O WF e) vs) σ H Q := by
  obtain ⟨ρ, F, s, q⟩ := q
  unfold eCompD at q
  split at q
  · rename_i ks hr
    obtain ⟨d, h1, ⟨h2, hz⟩, h3⟩ := s.own i _ hr hi
    have hF : F d = none := h3 d self_foot
    refine ⟨d, _, h2, trivial, fun od => ?_⟩
    have ne : ∀ {b : Addr} {o : HO}, F b = some o → b ≠ d := fun h z => by subst z; rw [hF] at h; cases h
    have sF : Same F (upd F d (.frz od (.dK (dctKV ks)))) := same_upd hF
    have sH : Same (upd F d (.frz od (.dK (dctKV ks)))) (upd H d (.frz od (.dK (dctKV ks)))) := fun b o hb => by
      by_cases z : b = d
      · subst z; rw [upd_same] at hb ⊢; exact hb
      · rw [upd_ne z] at hb ⊢; exact s.sub b o hb
    have ft : ∀ {j e a}, j ∈ O → j ≠ i → ρ[j]? = some (some e) → σ[j]? = some (some (.ref a)) → d ∉ foot H a := fun hj ne he ha q => ne (s.inj _ i _ _ _ d d hj hi he hr ha h1 q self_foot)
    have keep : ∀ {j e a}, j ∈ O → j ≠ i → ρ[j]? = some (some e) → σ[j]? = some (some (.ref a)) → Body X.K X.mg (upd F d (.frz od (.dK (dctKV ks)))) (upd H d (.frz od (.dK (dctKV ks)))) e a ∧ foot (upd H d (.frz od (.dK (dctKV ks)))) a = foot H a := fun hj nj he ha =>
      (s.body hj he ha).1.keep sF fun y hy o ho => by
        rw [upd_ne (fun z : y = d => ft hj nj he ha (by rw [← z]; exact hy))]; exact ho
    have s1 : SR X.K X.mg O (ρ.set i none) (upd F d (.frz od (.dK (dctKV ks)))) σ (upd H d (.frz od (.dK (dctKV ks)))) := by
      have get : ∀ {j : Nat} {a : D}, (ρ.set i none)[j]? = some (some a) → j ≠ i ∧ ρ[j]? = some (some a) := fun h => by
        rcases get_set h with ⟨_, e1, _⟩ | ⟨n, h⟩
        · cases e1
        · exact ⟨n, h⟩
      refine ⟨sH, fun j a h n => ?_, fun j a h n => ?_, fun j k d1 d2 a b y h1' h2' h3' h4' h5' h6' h7' h8' => ?_, by rw [List.length_set]; exact s.len⟩
      · obtain ⟨_, h⟩ := get h
        obtain ⟨v, g1, g2⟩ := s.dat j a h n
        exact ⟨v, g1, Rep.mono sF _ _ g2⟩
      · obtain ⟨nj, h⟩ := get h
        obtain ⟨b, g1, g2, g3⟩ := s.own j a h n
        obtain ⟨k1, k2⟩ := keep n nj h g1
        refine ⟨b, g1, k1, fun y hy => ?_⟩
        rw [k2] at hy
        rw [upd_ne (fun z : y = d => ft n nj h g1 (by rw [← z]; exact hy))]
        exact g3 y hy
      · obtain ⟨n1, h3'⟩ := get h3'
        obtain ⟨n2, h4'⟩ := get h4'
        rw [(keep h1' n1 h3' h5').2] at h7'
        rw [(keep h2' n2 h4' h6').2] at h8'
        exact s.inj j k d1 d2 a b y h1' h2' h3' h4' h5' h6' h7' h8'
    refine ⟨_, h1, d, od, rfl, .inl ⟨dctKV ks, upd_same, fun p0 hD => ?_⟩⟩
    refine lc_tail (J := Itk d od (dctKV ks)) hts s1 (.refl sH) (ItD.keys upd_same hz) hD (Q := fun v H' => H' d = some (.frz od (.dK (dctKV ks))) ∧ Q v (upd H' d (.dK (dctKV ks)))) (W := fun _ _ _ _ => False) ?_
    cases hc : compL g t e (wipeE (ρ.set i none) vs) (ks.map .int) with
    | err c => exact absurd hc (compL_err _)
    | stuck => rw [hc] at q; exact q.elim
    | ok ys =>
      rw [hc] at q
      intro v F' H' ex fv
      have fd : F' d = some (.frz od (.dK (dctKV ks))) := ex.ff _ _ upd_same
      have hd : H' d = some (.frz od (.dK (dctKV ks))) := ex.fh _ _ fd
      refine ⟨hd, ?_⟩
      obtain ⟨o, us, rfl, f1, f2, f3, f4, f5⟩ := FreshV.lst fv
      have no : o ≠ d := fun z => by subst z; rw [upd_same] at f5; cases f5
      refine q (.ref o) (RT.del F' d) (upd H' d (.dK (dctKV ks))) ⟨fun b y hb => ?_, fun b y hb => ?_, fun b y hb => ?_, fun b hb => ?_⟩ (freshLst (by rw [upd_ne no]; exact f1) (by rw [del_ne no]; exact f2) (RepL.del fd _ _ f3) f4 (by rw [upd_ne no] at f5; exact f5))
      · rw [del_ne (ne hb)]
        exact ex.ff b y (sF _ _ hb)
      · by_cases z : b = d
        · subst z; rw [h2] at hb; rw [upd_same]; exact hb
        · rw [upd_ne z]
          exact ex.hh b y (by rw [upd_ne z]; exact hb)
      · by_cases z : b = d
        · subst z; rw [del_same] at hb; cases hb
        · rw [del_ne z] at hb
          rw [upd_ne z]; exact ex.fh b y hb
      · by_cases z : b = d
        · subst z; rw [del_same, hF]
        · rw [del_ne z, ex.nw b (by rw [upd_ne z]; exact hb), upd_ne z]
  · exact q.elim
theorem pd_lcD (hi : i ∈ O) (hc : X.calm = true) (hN : X.N.Nodup) (h1 : PE X (.Name x p1) (tVar i)) (ok : BlkOk X.N X.env.scope scope own)
    (hg : ∀ (s : Shared) (H : Hp) (C : Addr) (cl : List (Str × Addr)) (fp : List Addr), PGD (X.blk s H scope (compEnvC scope cl C X.env) fp) O ts g tg)
    (ht : ∀ (s : Shared) (H : Hp) (C : Addr) (cl : List (Str × Addr)) (fp : List Addr), PTsD (X.blk s H scope (compEnvC scope cl C X.env) fp) O WF t ifs)
    (he : ∀ (s : Shared) (H : Hp) (C : Addr) (cl : List (Str × Addr)) (fp : List Addr), PD (X.blk s H scope (compEnvC scope cl C X.env) fp) .rep O WF e elt)
    (hts : ∀ j, j ∈ ts → j ∈ own.map (·.2)) (hs : ∀ y, foldedSetIterable (.Name x p1) X.env y = pure y := by intro _; rfl) :
    PD X .fresh O W (eCompD i (own.map (·.2)) g t e) (.ListComp elt [⟨tg, .Name x p1, ifs, 0⟩] scope pos) :=
  PE.imp (pe_lock (pe_lc hc hN (pi_keys h1) ok hg ht he hs)) fun σ H Q q => tLcD hts hi q
end
end RT

namespace RT
open PySem PySem.Spec PyProof.Rows L2
/-! ### defs that give a list of the caller's own -/
def spF (K : PySem.W.Frag) (mg : Str → Option Value) (n : Nat) (f : List D → R D) : Sp := fun vs H Q E => vs.length = n ∧ ∃ ds F, Same F H ∧ RepL K mg F ds vs ∧ match f ds with
  | .ok d => ∀ v F' H', Ext F H F' H' → Val K mg .fresh H F' H' d v → Q v H'
  | .err c => ∀ F' H', Ext F H F' H' → ∀ C, mg c = some (.ref C) → E (.ref C) none H'
  | .stuck => False
section
variable {P : Program} {w : World} {K : PySem.W.Frag} {mg : Str → Option Value} {base : Heap}
theorem fn_okF {x qual : Str} {st : Stmt} {f : Addr} {fd : FuncData} {N ps : List Str} {k m : Nat} {ef : EF} {e : Expr} {pos : Pos} (G : Fun K x qual st f fd) (S : FnScope N ps (defScope st)) (hn : ps.length + m = N.length) (hst : defBody st = [.Return (some e) pos])
    (hbody : ∀ (cdv : Value) (A : Around) (outer : List PySem.Env) (sh : Shared) (H : Hp) (E : XK), Room k (A.deeper (envOfC qual (defScope st) sh.heap.objs.size f cdv)) →
      PD (cxOf (L2.CX P w) P w K mg base N qual (defScope st) f cdv A outer sh H E) .fresh [] (fun cls d _ H => E cls d H) ef e) : FnOk P w K mg base (L2.CX P w) (k + 1) f fd ps (spF K mg ps.length (body m (sRet ef))) := by
  refine G.okX S (fun vs H Q E h => h.1) fun cdv A outer sh H vs Q E hr h => ?_
  obtain ⟨h1, ds, F, h2, h3, h4⟩ := h
  rw [hst]
  refine ⟨_, pss_one (ps_ret (hbody cdv A outer sh H E hr)), ?_⟩
  have hl : ds.length = ps.length := by rw [← h3.len]; exact h1
  have hm : N.length - ds.length = m := by omega
  have sb := start_SR (N := N) (ds := ds) (vs := vs) h2 h3 (by omega)
  rw [hm] at sb
  refine ⟨_, F, sb.sr, ?_⟩
  unfold body sRet at h4
  cases hs : ef (ds.map some ++ List.replicate m none) with
  | ok d => rw [hs] at h4; exact fun v F' H' e r => h4 v F' H' e r
  | err c => rw [hs] at h4; exact fun F' H' e C hC => h4 F' H' e C hC
  | stuck => rw [hs] at h4; exact h4
end
section
variable {X : Cx} {O : List Nat} {W : WX} {ar : AF} {e : Expr} {es : List Expr} {pos p : Pos}
theorem pd_callF {k n : Nat} {nm : Str} {st : Stmt} {ps : List Str} {F : List D → R D} {x : Str} (T : DefT X.K X.mg x nm st ps) (G : FnOk X.prog X.w X.K X.mg X.base (L2.CX X.prog X.w) k T.fa T.fd ps (spF X.K X.mg n F)) (hr : Room k X.A)
    (tk : Takes X W) (ha : PAD X .rep O W ar (e :: es)) (hn : ∀ ρ ds, ar ρ = .ok ds → ds.length = n) (hg : Gl X x := by rfl) (hdb : (x == ("__debug__" : Str)) = false := by decide) (he : starEach (e :: es) X.env = (false, eval e X.env) :: starEach es X.env := by rfl) (hpl : (backTo pos (starEach es X.env)).any (·.1) = false := by rfl) :
    PD X .fresh O W (eF F ar) (.Call (.Name x p) (e :: es) [] pos) :=
  PE.imp (pe_callS G hr hg T.g T.F.kp T.b (fun σ => passAt tk σ) ha hdb he hpl) fun σ H Q ⟨ρ, F', s, q⟩ => ⟨ρ, F', s, Goal.bindA q fun ds vs F1 H1 ed e1 l q => by
    have l' : RepL X.K X.mg F1 ds vs := l
    refine ⟨by rw [l'.len]; exact hn ρ ds ed, ds, F1, e1.fh, l', ?_⟩
    cases hf : F ds with
    | ok d => rw [hf] at q; exact q
    | err c => rw [hf] at q; exact fun F' H' e' C hC => q F' H' e' C hC
    | stuck => rw [hf] at q; exact q⟩
end
end RT

namespace RT
open PySem PySem.Spec PyProof.Rows L2
/-! ### zip of two tuples, its pairs kept -/
section
variable {prog : Program} {w : World} {A : Around} {E : Value → Shared → Prop} {s : Shared}
/-- a zip: no pair handed out yet, or the last one still there -/
def ZAny (h : Heap) (z TI TO i1 i2 : Addr) : Prop := (IsZip h z TI TO .none ∧ ∃ a b, IsPair h TO a b) ∨ ∃ T f oT, IsZipHeld h z TI TO T f ∧ h.get? T = some oT ∧ T ∉ [z, TI, TO, i1, i2]
theorem zheld_item {z TI TO T i1 i2 l1 l2 : Addr} {f : Bool} {oT : Obj} {k1 k2 : Nat} {xs ys : Array Value} {x y : Value} {Q : Value → Shared → Prop} (D : ZipApart z TI TO i1 i2 l1 l2)
    (hz : IsZipHeld s.heap z TI TO T f) (hT : s.heap.get? T = some oT) (hTI : IsPair s.heap TI (.ref i1) (.ref i2))
    (h1 : s.heap.IsTupleIter i1 l1 k1) (h2 : s.heap.IsTupleIter i2 l2 k2) (hl1 : s.heap.IsTuple l1 xs) (hl2 : s.heap.IsTuple l2 ys) (hx : xs[k1]? = some x) (hy : ys[k2]? = some y)
    (hQ : ∀ h', IsZipHeld h' z TI TO T true → h'.IsTupleIter i1 l1 (k1 + 1) → h'.IsTupleIter i2 l2 (k2 + 1) → IsPair h' s.heap.objs.size x y → h'.objs.size = s.heap.objs.size + 1 →
      (∀ c o, c ≠ z → c ≠ i1 → c ≠ i2 → s.heap.get? c = some o → h'.get? c = some o) → Q (.ref s.heap.objs.size) { s with heap := h' }) :
    wpAny (model prog w) A (Builtin.«zip.__next__» ⟨[.ref z], []⟩) (fun fin s' => ∃ v, fin = .done (.ret v) ∧ Q v s') E s := by
  show wpAny _ _ (field (.ref z) 2 >>= _) _ _ _
  refine wpAny_bind (wpAny_field hz rfl (x := .bool false) rfl ?_)
  show wpAny _ _ (field (.ref z) 3 >>= _) _ _ _
  refine wpAny_bind (wpAny_field hz rfl (x := .ref TI) rfl ?_)
  refine wpAny_bind (wpAny_seqItems hTI rfl ?_)
  show wpAny _ _ (Builtin.SmallTypes.ownedTupleIsFree (.ref z) >>= _) _ _ _
  refine wpAny_bind (wpAny_tupleHeld_zip hz hT fun h₁ hz₁ hs₁ => ?_)
  simp only [Bool.false_eq_true, if_false]
  refine wpAny_bind ?_
  rw [← Array.forIn_toList]
  simp only [List.forIn_cons, List.forIn_nil]
  refine wpAny_bind (wpAny_bind (wpAny_holding ?_))
  show wpAny _ _ (Builtin.SmallTypes.nextOf (.ref i1) >>= _) _ _ _
  refine wpAny_bind (RZ.nextOf_tuple_item (s := { s with heap := h₁ }) (h1.extBut hs₁.extBut D.i1z) (hl1.extBut hs₁.extBut D.l1z) hx fun h₂ h1₂ hs₂ => wpAny_pure ?_)
  refine wpAny_pure ?_
  refine wpAny_bind (wpAny_bind (wpAny_holding ?_))
  show wpAny _ _ (Builtin.SmallTypes.nextOf (.ref i2) >>= _) _ _ _
  refine wpAny_bind (RZ.nextOf_tuple_item (s := { s with heap := h₂ }) ((h2.extBut hs₁.extBut D.i2z).extBut hs₂.extBut D.i12.symm) ((hl2.extBut hs₁.extBut D.l2z).extBut hs₂.extBut D.l2i1) hy fun h₃ h2₃ hs₃ => wpAny_pure ?_)
  refine wpAny_pure (wpAny_pure ?_)
  show wpAny _ _ (newTuple [x, y] >>= _) _ _ _
  refine wpAny_bind (wpAny_newTuple ?_)
  have hsz : h₃.objs.size = s.heap.objs.size := by rw [hs₃.1, hs₂.1, hs₁.1]
  have hz₃ : IsZipHeld h₃ z TI TO T true := hs₃.extBut _ _ D.i2z.symm (hs₂.extBut _ _ D.i1z.symm hz₁)
  have hk : ∀ c o, c ≠ z → c ≠ i1 → c ≠ i2 → s.heap.get? c = some o → h₃.get? c = some o := fun c o c1 c2 c3 e => hs₃.extBut _ _ c3 (hs₂.extBut _ _ c2 (hs₁.extBut _ _ c1 e))
  have h1₃ : h₃.IsTupleIter i1 l1 (k1 + 1) := h1₂.extBut hs₃.extBut D.i12
  refine wpAny_pure ⟨_, rfl, ?_⟩
  show Q (.ref h₃.objs.size) _
  have hp : IsPair (h₃.push { cls := .type "tuple", data := .seq #[x, y] }) h₃.objs.size x y := Heap.get?_push_size _ rfl
  have hz4 : (h₃.push { cls := .type "tuple", data := .seq #[x, y] }).objs.size = h₃.objs.size + 1 := Heap.size_push ..
  rw [hsz] at hp hz4 ⊢
  exact hQ _ (Heap.get?_push_of_some _ hz₃) (h1₃.at fun o e => Heap.get?_push_of_some _ e) (h2₃.at fun o e => Heap.get?_push_of_some _ e) hp hz4 fun c o c1 c2 c3 e => Heap.get?_push_of_some _ (hk c o c1 c2 c3 e)
theorem zheld_end {z TI TO T i1 i2 l1 l2 : Addr} {f : Bool} {oT : Obj} {k1 k2 : Nat} {xs ys : Array Value} {Q : Fin → Shared → Prop} (hh : A.handled = none) (D : ZipApart z TI TO i1 i2 l1 l2)
    (hz : IsZipHeld s.heap z TI TO T f) (hT : s.heap.get? T = some oT) (hTI : IsPair s.heap TI (.ref i1) (.ref i2))
    (h1 : s.heap.IsTupleIter i1 l1 k1) (h2 : s.heap.IsTupleIter i2 l2 k2) (hl1 : s.heap.IsTuple l1 xs) (hl2 : s.heap.IsTuple l2 ys) (hend : xs[k1]? = none ∨ ys[k2]? = none)
    (hE : ∀ h' e, (∀ c o, c ≠ z → c ≠ i1 → c ≠ i2 → s.heap.get? c = some o → h'.get? c = some o) → (∃ o, h'.get? e = some o ∧ o.cls = .type "StopIteration") → E (.ref e) { s with heap := h' }) :
    wpAny (model prog w) A (Builtin.«zip.__next__» ⟨[.ref z], []⟩) Q E s := by
  show wpAny _ _ (field (.ref z) 2 >>= _) _ _ _
  refine wpAny_bind (wpAny_field hz rfl (x := .bool false) rfl ?_)
  show wpAny _ _ (field (.ref z) 3 >>= _) _ _ _
  refine wpAny_bind (wpAny_field hz rfl (x := .ref TI) rfl ?_)
  refine wpAny_bind (wpAny_seqItems hTI rfl ?_)
  show wpAny _ _ (Builtin.SmallTypes.ownedTupleIsFree (.ref z) >>= _) _ _ _
  refine wpAny_bind (wpAny_tupleHeld_zip hz hT fun h₁ hz₁ hs₁ => ?_)
  simp only [Bool.false_eq_true, if_false]
  refine wpAny_bind ?_
  rw [← Array.forIn_toList]
  simp only [List.forIn_cons, List.forIn_nil]
  refine wpAny_bind (wpAny_bind (wpAny_holding ?_))
  show wpAny _ _ (Builtin.SmallTypes.nextOf (.ref i1) >>= _) _ _ _
  cases hx : xs[k1]? with
  | none =>
    refine wpAny_bind (RZ.nextOf_tuple_end (s := { s with heap := h₁ }) hh (h1.extBut hs₁.extBut D.i1z) (hl1.extBut hs₁.extBut D.l1z) hx fun h₂ e hs₂ he => ?_)
    exact hE h₂ e (fun c o c1 c2 _ x => hs₂ _ _ c2 (hs₁.extBut _ _ c1 x)) he
  | some x =>
    have hy : ys[k2]? = none := by rcases hend with h | h; rw [hx] at h; cases h; exact h
    refine wpAny_bind (RZ.nextOf_tuple_item (s := { s with heap := h₁ }) (h1.extBut hs₁.extBut D.i1z) (hl1.extBut hs₁.extBut D.l1z) hx fun h₂ h1₂ hs₂ => wpAny_pure ?_)
    refine wpAny_pure ?_
    refine wpAny_bind (wpAny_bind (wpAny_holding ?_))
    show wpAny _ _ (Builtin.SmallTypes.nextOf (.ref i2) >>= _) _ _ _
    refine wpAny_bind (RZ.nextOf_tuple_end (s := { s with heap := h₂ }) hh ((h2.extBut hs₁.extBut D.i2z).extBut hs₂.extBut D.i12.symm) ((hl2.extBut hs₁.extBut D.l2z).extBut hs₂.extBut D.l2i1) hy fun h₃ e hs₃ he => ?_)
    exact hE h₃ e (fun c o c1 c2 c3 x => hs₃ _ _ c3 (hs₂.extBut _ _ c2 (hs₁.extBut _ _ c1 x))) he
theorem znext_item {z TI TO i1 i2 l1 l2 : Addr} {k : Nat} {xs ys : Array Value} {x y : Value} {Q : Option Value → Shared → Prop} (D : ZipApart z TI TO i1 i2 l1 l2)
    (hz : ZAny s.heap z TI TO i1 i2) (hTI : IsPair s.heap TI (.ref i1) (.ref i2)) (hTO : ∃ a b, IsPair s.heap TO a b) (h1 : s.heap.IsTupleIter i1 l1 k) (h2 : s.heap.IsTupleIter i2 l2 k) (hl1 : s.heap.IsTuple l1 xs) (hl2 : s.heap.IsTuple l2 ys)
    (hx : xs[k]? = some x) (hy : ys[k]? = some y)
    (hQ : ∀ h', ZAny h' z TI TO i1 i2 → IsPair h' TI (.ref i1) (.ref i2) → (∃ a b, IsPair h' TO a b) → h'.IsTupleIter i1 l1 (k + 1) → h'.IsTupleIter i2 l2 (k + 1) → IsPair h' s.heap.objs.size x y → h'.objs.size = s.heap.objs.size + 1 →
      (∀ c o, c ∉ [z, TI, TO, i1, i2] → s.heap.get? c = some o → h'.get? c = some o) → Q (some (.ref s.heap.objs.size)) { s with heap := h' }) :
    wpAny (model prog w) A (pyNext (.ref z)) Q E s := by
  have lt : ∀ {c o}, s.heap.get? c = some o → s.heap.objs.size ≠ c := fun e q => absurd (Heap.lt_size e) (by rw [← q]; exact Nat.lt_irrefl _)
  obtain ⟨a0, b0, hTO⟩ := hTO
  rcases hz with ⟨hz, a, b, hTO'⟩ | ⟨T, f, oT, hz, hT, hn⟩
  · refine RZ.pyNext_zipT_item D hz hTI hTO h1 h2 hl1 hl2 hx hy fun h' a1 a2 a3 a4 a5 a6 a7 => hQ h' (.inr ⟨_, false, _, a1, a5, fun q => ?_⟩)
      (a7 TI _ D.TIz D.TITO D.TIi1 D.TIi2 hTI) ⟨_, _, a2⟩ a3 a4 a5 a6 (fun c o hc e => a7 c o (fun q => hc (by simp [q])) (fun q => hc (by simp [q])) (fun q => hc (by simp [q])) (fun q => hc (by simp [q])) e)
    obtain ⟨_, e1, _⟩ := h1
    obtain ⟨_, e2, _⟩ := h2
    have q : s.heap.objs.size = z ∨ s.heap.objs.size = TI ∨ s.heap.objs.size = TO ∨ s.heap.objs.size = i1 ∨ s.heap.objs.size = i2 := by simpa using q
    rcases q with q | q | q | q | q
    · exact lt hz q
    · exact lt hTI q
    · exact lt hTO q
    · exact lt e1 q
    · exact lt e2 q
  · have hTy : s.TypeIs (.ref z) "zip" := ⟨_, hz, rfl⟩
    unfold pyNext
    exact wpAny_bind (wpAny_attempt (wpAny_callSpecial?_slot (name := Str.ofString "__next__") hTy F.slot_zip_next
      (wpAny_call_entry F.slot_zip_next hTy F.entry_zip_next
        (zheld_item D hz hT hTI h1 h2 hl1 hl2 hx hy fun h' a1 a3 a4 a5 a6 a7 => wpAny_pure (hQ h' (.inr ⟨T, true, oT, a1, a7 T oT (fun q => hn (by simp [q])) (fun q => hn (by simp [q])) (fun q => hn (by simp [q])) hT, hn⟩)
          (a7 TI _ D.TIz D.TIi1 D.TIi2 hTI) ⟨_, _, a7 TO _ D.TOz D.TOi1 D.TOi2 hTO⟩ a3 a4 a5 a6
          (fun c o hc e => a7 c o (fun q => hc (by simp [q])) (fun q => hc (by simp [q])) (fun q => hc (by simp [q])) e))) (F.args_zip_next_1 _))))
theorem znext_end {z TI TO i1 i2 l1 l2 : Addr} {k : Nat} {xs ys : Array Value} {Q : Option Value → Shared → Prop} (hh : A.handled = none) (D : ZipApart z TI TO i1 i2 l1 l2)
    (hz : ZAny s.heap z TI TO i1 i2) (hTI : IsPair s.heap TI (.ref i1) (.ref i2)) (hTO : ∃ a b, IsPair s.heap TO a b) (h1 : s.heap.IsTupleIter i1 l1 k) (h2 : s.heap.IsTupleIter i2 l2 k) (hl1 : s.heap.IsTuple l1 xs) (hl2 : s.heap.IsTuple l2 ys)
    (hend : xs[k]? = none ∨ ys[k]? = none) (hQ : ∀ h', (∀ c o, c ∉ [z, TI, TO, i1, i2] → s.heap.get? c = some o → h'.get? c = some o) → Q none { s with heap := h' }) :
    wpAny (model prog w) A (pyNext (.ref z)) Q E s := by
  obtain ⟨a0, b0, hTO⟩ := hTO
  rcases hz with ⟨hz, a, b, hTO'⟩ | ⟨T, f, oT, hz, hT, hn⟩
  · exact RZ.pyNext_zipT_end hh D hz hTI hTO h1 h2 hl1 hl2 hend fun h' a7 => hQ h' fun c o hc e => a7 c o (fun q => hc (by simp [q])) (fun q => hc (by simp [q])) (fun q => hc (by simp [q])) (fun q => hc (by simp [q])) e
  · have hTy : s.TypeIs (.ref z) "zip" := ⟨_, hz, rfl⟩
    unfold pyNext
    refine wpAny_bind (wpAny_attempt (wpAny_callSpecial?_slot (name := Str.ofString "__next__") hTy F.slot_zip_next
      (wpAny_call_entry F.slot_zip_next hTy F.entry_zip_next (zheld_end hh D hz hT hTI h1 h2 hl1 hl2 hend fun h' e hk he => ?_) (F.args_zip_next_1 _))))
    obtain ⟨o, ho, hc⟩ := he
    refine wpAny_bind (wpAny_isInstance (T := "StopIteration") (b := true) ⟨o, ho, hc⟩ isSubtype_stop ?_)
    exact wpAny_pure (hQ _ fun c o hc e => hk c o (fun q => hc (by simp [q])) (fun q => hc (by simp [q])) (fun q => hc (by simp [q])) e)
end
/-! ### drained into a list -/
theorem zip_no_len : typeLookup (.type "zip") "__len__" = pure none := by rw [typeLookup_type, builtinLookup_eq_fast]; kernel_rfl
theorem zip_no_hint : typeLookup (.type "zip") "__length_hint__" = pure none := by rw [typeLookup_type, builtinLookup_eq_fast]; kernel_rfl
/-- the pairs of the items of xs and ys, laid anew at us -/
def Prs (H0 H : Hp) (xs ys us : List V) : Prop := ∀ (i : Nat) (u : V), us[i]? = some u → ∃ (T : Addr) (x y : V), u = V.ref T ∧ xs[i]? = some x ∧ ys[i]? = some y ∧ H0 T = none ∧ H T = some (.tup [x, y])
section
variable {X : Cx} {pins : List (Addr × Obj)} {σ : L2.St} {A : Around} {R : Result → Shared → Prop} {S z TI TO i1 i2 a b : Addr} {res : Value} {xs ys us : List V} {n : Nat}
theorem Prs.mono {H0 H H' : Hp} (h : Prs H0 H xs ys us) (k : ∀ c o, H c = some (.tup o) → H' c = some (.tup o)) : Prs H0 H' xs ys us := fun i u e => by
  obtain ⟨T, x, y, h1, h2, h3, h4, h5⟩ := h i u e
  exact ⟨T, x, y, h1, h2, h3, h4, k _ _ h5⟩
theorem Prs.snoc {H0 H : Hp} {x y : V} {T : Addr} (h : Prs H0 H xs ys us) (hx : xs[us.length]? = some x) (hy : ys[us.length]? = some y) (h0 : H0 T = none) (hT : H T = some (.tup [x, y])) : Prs H0 H xs ys (us ++ [.ref T]) := fun i u e => by
  by_cases q : i < us.length
  · rw [List.getElem?_append_left q] at e
    exact h i u e
  · have hi : i = us.length := by
      have := (List.getElem?_eq_some_iff.mp e).1
      rw [List.length_append, List.length_singleton] at this; omega
    subst hi
    rw [List.getElem?_append_right (Nat.le_refl _), Nat.sub_self] at e
    cases e
    exact ⟨T, x, y, rfl, hx, hy, h0, hT⟩
theorem ZAny.upd {h h' : Heap} (x : ZAny h z TI TO i1 i2) (hS : S ∉ [z, TI, TO, i1, i2]) (k : ∀ c o, c ≠ S → h.get? c = some o → h'.get? c = some o) (e : ∃ o, h'.get? S = some o) : ZAny h' z TI TO i1 i2 := by
  rcases x with ⟨hz, a, b, hTO⟩ | ⟨T, f, oT, hz, hT, hn⟩
  · exact .inl ⟨k _ _ (fun q => hS (by simp [← q])) hz, a, b, k _ _ (fun q => hS (by simp [← q])) hTO⟩
  · by_cases q : T = S
    · obtain ⟨o, e⟩ := e
      exact .inr ⟨T, f, o, k _ _ (fun q => hS (by simp [← q])) hz, by rw [q]; exact e, hn⟩
    · exact .inr ⟨T, f, oT, k _ _ (fun q => hS (by simp [← q])) hz, k _ _ q hT, hn⟩
theorem drainZ {H0 : Hp} (hh : A.handled = none) (D : ZipApart z TI TO i1 i2 a b) (hn : n = min xs.length ys.length) (hS : S ∉ [z, TI, TO, i1, i2])
    (hend : ∀ s' H' us, Inv X pins σ H' s' → us.length = n → Prs H0 H' xs ys us → Same H0 H' → H' S = some (.lst us) → R (.ok (.ret res)) s') :
    ∀ (m : Nat) (s : Shared) (H : Hp) (us : List V), n = us.length + m → Inv X pins σ H s → (∀ c ∈ [z, TI, TO, i1, i2], FpOk X pins H c) → ZAny s.heap z TI TO i1 i2 → IsPair s.heap TI (.ref i1) (.ref i2) → (∃ a b, IsPair s.heap TO a b) →
      s.heap.IsTupleIter i1 a us.length → s.heap.IsTupleIter i2 b us.length → H a = some (.tup xs) → H b = some (.tup ys) → Prs H0 H xs ys us → Same H0 H → H0 S = none → H S = some (.lst us) →
      codeAny (model X.prog X.w) A (.builtin "list.extend.loop" ⟨[.ref S, .ref z, res], []⟩) R s := by
  intro m
  induction m with
  | zero =>
    intro s H us hi I hf hz hTI hTO h1 h2 ha hb hp h0 h0S hHS
    have hi : us.length = n := by omega
    rw [hi] at h1 h2
    refine codeAny_builtin F.entry_extend_loop ?_
    rw [Around.under_plainId F.plain_extend_loop _]
    show wpAny _ A.in1 (pyNext (.ref z) >>= _) _ _ s
    obtain ⟨its, rv, p, _⟩ := I.tuple (SqT.of ha)
    obtain ⟨its2, rv2, p2, _⟩ := I.tuple (SqT.of hb)
    have l1 := rv.length
    have l2 := rv2.length
    refine wpAny_bind (znext_end (A := A.in1) hh D hz hTI hTO h1 h2 p p2 (xs := its.toArray) (ys := its2.toArray) ?_ fun h' hk => ?_)
    · by_cases q : xs.length ≤ n
      · exact .inl (by simp; omega)
      · exact .inr (by simp; omega)
    · exact wpAny_pure (hend _ H us (I.turnedL (t' := s.toks) (ch := [z, TI, TO, i1, i2]) hk hf) hi hp h0 hHS)
  | succ m ih =>
    intro s H us hi I hf hz hTI hTO h1 h2 ha hb hp h0 h0S hHS
    generalize hil : us.length = i at h1 h2 hi
    refine codeAny_builtin F.entry_extend_loop ?_
    rw [Around.under_plainId F.plain_extend_loop _]
    show wpAny _ A.in1 (pyNext (.ref z) >>= _) _ _ s
    obtain ⟨its, rv, p, sz⟩ := I.tuple (SqT.of ha)
    obtain ⟨its2, rv2, p2, _⟩ := I.tuple (SqT.of hb)
    have hxl : i < xs.length := by omega
    have hyl : i < ys.length := by omega
    obtain ⟨u, hu, ru⟩ := rv.get (List.getElem?_eq_getElem hxl)
    obtain ⟨u2, hu2, ru2⟩ := rv2.get (List.getElem?_eq_getElem hyl)
    have lts : ∀ c ∈ [z, TI, TO, i1, i2], c < s.heap.objs.size := fun c hc => by
      obtain ⟨_, _, eTO⟩ := hTO
      obtain ⟨_, e1, _⟩ := h1
      obtain ⟨_, e2, _⟩ := h2
      have ez : ∃ o, s.heap.get? z = some o := by
        rcases hz with ⟨hz, _⟩ | ⟨_, _, _, hz, _⟩
        · exact ⟨_, hz⟩
        · exact ⟨_, hz⟩
      obtain ⟨_, ez⟩ := ez
      have e' : c = z ∨ c = TI ∨ c = TO ∨ c = i1 ∨ c = i2 := by simpa using hc
      rcases e' with q | q | q | q | q
      · rw [q]; exact Heap.lt_size ez
      · rw [q]; exact Heap.lt_size hTI
      · rw [q]; exact Heap.lt_size eTO
      · rw [q]; exact Heap.lt_size e1
      · rw [q]; exact Heap.lt_size e2
    refine wpAny_bind (znext_item (A := A.in1) D hz hTI hTO h1 h2 p p2 (x := u) (y := u2) (by simpa using hu) (by simpa using hu2) fun h' z' TI' TO' h1' h2' hT hsz hk => ?_)
    have hTn : H s.heap.objs.size = none := I.hok.fresh (Nat.le_refl _)
    have new : ObjOk X.prog X.w (upd H s.heap.objs.size (.tup [xs[i], ys[i]])) h' s.heap.objs.size (.tup [xs[i], ys[i]]) :=
      ⟨by show 2 ≤ sizeLine; decide, [u, u2], .cons ru (.cons ru2 .nil), ⟨_, hT, rfl, _, rfl⟩⟩
    have I1 : Inv X pins σ (upd H s.heap.objs.size (.tup [xs[i], ys[i]])) { s with heap := h' } := I.turnedNew (t' := s.toks) (ch := [z, TI, TO, i1, i2]) hk hf (Nat.le_refl _) new
    have hST : S ≠ s.heap.objs.size := fun q => by rw [q, hTn] at hHS; cases hHS
    have hHS1 : upd H s.heap.objs.size (.tup [xs[i], ys[i]]) S = some (.lst us) := by rw [upd_ne hST]; exact hHS
    obtain ⟨hul, its3, c, rus, hS3⟩ := I1.hok S _ hHS1
    have hS3 : h'.get? S = some { cls := .type "list", data := .seq its3.toArray c } := hS3
    have hlen3 : its3.length = i := by rw [← rus.length]; exact hil
    show wpAny _ A.in1 (updateSeq S (·.push (.ref s.heap.objs.size)) >>= _) _ _ _
    refine wpAny_bind (wpAny_updateSeq (s := { s with heap := h' }) hS3 rfl (wpAny_pure ⟨plainId_quiet F.plain_extend_loop _, ?_⟩)
      (by show its3.toArray.size ≤ sizeLine; rw [List.size_toArray]; omega) (by show (its3.toArray.push _).size ≤ sizeLine + 1; rw [Array.size_push, List.size_toArray]; omega))
    have hS4 := Heap.get?_update_self (Obj.mapSeq (·.push (Value.ref s.heap.objs.size))) hS3 rfl
    have k4 : ∀ b o, b ≠ S → h'.get? b = some o → (h'.update S (Obj.mapSeq (·.push (Value.ref s.heap.objs.size)))).get? b = some o := fun b o hb e => (Heap.get?_update_other _ _ (Ne.symm hb)).trans e
    have I2 : Inv X pins σ (upd (upd H s.heap.objs.size (.tup [xs[i], ys[i]])) S (.lst (us ++ [.ref s.heap.objs.size]))) { s with heap := h'.update S (Obj.mapSeq (·.push (Value.ref s.heap.objs.size))) } :=
      I1.write (t' := s.toks) (by rw [hHS1]; trivial) (.inl rfl) k4 ⟨_, hS4⟩ ⟨by rw [List.length_append, rus.length]; show its3.length + 1 ≤ sizeLine; omega, its3 ++ [Value.ref s.heap.objs.size], c + 1, rus.append (.cons (show RelV (.ref s.heap.objs.size) (Value.ref s.heap.objs.size) from rfl) .nil), by rw [hS4, Obj.mapSeq_push_plain, List.push_toArray]⟩
    have hT0 : H0 s.heap.objs.size = none := h0.free hTn
    have kt : ∀ c u, H c = some u → c ≠ S → upd (upd H s.heap.objs.size (.tup [xs[i], ys[i]])) S (.lst (us ++ [.ref s.heap.objs.size])) c = some u := fun c u e hc => by
      rw [upd_ne hc, upd_ne (fun q => by rw [q, hTn] at e; cases e)]; exact e
    have hl2 : (us ++ [V.ref s.heap.objs.size]).length = i + 1 := by rw [List.length_append, hil]; rfl
    refine ih _ _ (us ++ [.ref s.heap.objs.size]) (by omega) I2 (fun c hc => ?_) (z'.upd hS k4 ⟨_, hS4⟩) (k4 _ _ (fun q => hS (by simp [← q])) TI') ?_ ?_ ?_ ?_ ?_ ?_ ?_ h0S upd_same
    · obtain ⟨f1, f2⟩ := hf c hc
      exact ⟨by rw [upd_ne (fun q => hS (by rw [← q]; exact hc)), upd_ne (Nat.ne_of_lt (lts c hc))]; exact f1, f2⟩
    · obtain ⟨_, _, e⟩ := TO'
      exact ⟨_, _, k4 _ _ (fun q => hS (by simp [← q])) e⟩
    · rw [hl2]; exact h1'.at fun o e => k4 _ _ (fun q => hS (by simp [← q])) e
    · rw [hl2]; exact h2'.at fun o e => k4 _ _ (fun q => hS (by simp [← q])) e
    · exact kt _ _ ha fun q => by rw [q, hHS] at ha; cases ha
    · exact kt _ _ hb fun q => by rw [q, hHS] at hb; cases hb
    · refine (hp.mono fun c o e => kt _ _ e fun q => by rw [q, hHS] at e; cases e).snoc (by rw [hil]; exact List.getElem?_eq_getElem hxl) (by rw [hil]; exact List.getElem?_eq_getElem hyl) hT0 (by rw [upd_ne (Ne.symm hST)]; exact upd_same)
    · exact fun c u e => kt _ _ (h0 _ _ e) fun q => by rw [q, h0S] at e; cases e
/-- the list S filled from the zip z -/
theorem extendZ {H0 : Hp} {s : Shared} {H : Hp} (hh : A.handled = none) (D : ZipApart z TI TO i1 i2 a b) (hn : n = min xs.length ys.length) (hS : S ∉ [z, TI, TO, i1, i2])
    (I : Inv X pins σ H s) (hf : ∀ c ∈ [z, TI, TO, i1, i2], FpOk X pins H c) (hz : IsZip s.heap z TI TO .none) (hTI : IsPair s.heap TI (.ref i1) (.ref i2)) (hTO : ∃ a b, IsPair s.heap TO a b)
    (h1 : s.heap.IsTupleIter i1 a 0) (h2 : s.heap.IsTupleIter i2 b 0) (ha : H a = some (.tup xs)) (hb : H b = some (.tup ys)) (hHS : H S = some (.lst [])) (h0 : Same H0 H) (h0S : H0 S = none)
    (hend : ∀ s' H' us, Inv X pins σ H' s' → us.length = n → Prs H0 H' xs ys us → Same H0 H' → H' S = some (.lst us) → R (.ok (.ret res)) s') :
    wpAny (model X.prog X.w) A.in1 (Builtin.List.listExtendWith (.ref S) (.ref z) res)
      (fun fin s' => match fin with | .done f => R (.ok f) s' | .again c' => c'.quiet = true ∧ codeAny (model X.prog X.w) A c' R s') (fun e s' => R (.error e) s') s := by
  have hSz : S ≠ z := fun q => hS (by simp [q])
  have hTy : s.TypeIs (.ref z) "zip" := ⟨_, hz, rfl⟩
  unfold Builtin.List.listExtendWith
  refine wpAny_bind (wpAny_typeOf hTy ?_)
  have h1' : Builtin.List.listSameRef (.ref S) (.ref z) = false := by simp [Builtin.List.listSameRef, hSz]
  have h2' : (Value.type "zip" == Value.type "list") = false := by decide
  have h3' : (Value.type "zip" == Value.type "tuple") = false := by decide
  simp only [h1', h2', h3', Bool.or_false, Bool.false_eq_true, if_false]
  refine wpAny_bind (wpAny_pyIter_zip hz ?_)
  refine wpAny_bind (wpAny_holding ?_)
  unfold Builtin.List.listLengthHint
  refine wpAny_bind (wpAny_specialOf hTy zip_no_len ?_)
  show wpAny _ A.in1 (specialOf (Value.ref z) (Str.ofString "__length_hint__") >>= _) _ _ _
  refine wpAny_bind (wpAny_specialOf hTy zip_no_hint ?_)
  refine wpAny_pure ?_
  show wpAny _ A.in1 (rule "list.extend.makes-room" >>= fun _ => Builtin.List.listTouch (.ref S) >>= fun _ =>
    again (.builtin "list.extend.loop" ⟨[.ref S, .ref z, res], []⟩)) _ _ _
  refine wpAny_bind (wpAny_rule ?_)
  obtain ⟨-, its, c, ru, eS⟩ := I.hok S _ hHS
  cases ru
  have eS : s.heap.get? S = some { cls := .type "list", data := .seq #[] c } := eS
  refine wpAny_bind ?_
  show wpAny _ A.in1 (updateSeq S (·.push .none) >>= fun _ => updateSeq S (·.pop)) _ _ _
  refine wpAny_bind (wpAny_updateSeq eS rfl ?_)
  have hS₂ := Heap.get?_update_self (Obj.mapSeq (·.push Value.none)) eS rfl
  refine wpAny_updateSeq (hz := by seq_fits) hS₂ rfl ?_
  have hS₃ := Heap.get?_update_self (Obj.mapSeq (·.pop)) hS₂ rfl
  have oth : ∀ b o, b ≠ S → s.heap.get? b = some o → ((s.heap.update S (Obj.mapSeq (·.push Value.none))).update S (Obj.mapSeq (·.pop))).get? b = some o :=
    fun b o hb e => (Heap.get?_update_other _ _ (Ne.symm hb)).trans ((Heap.get?_update_other _ _ (Ne.symm hb)).trans e)
  have hu : upd H S (.lst []) = H := by
    funext c; unfold upd; split
    · rename_i q; rw [q, hHS]
    · rfl
  have I1 : Inv X pins σ H { s with heap := (s.heap.update S (Obj.mapSeq (·.push Value.none))).update S (Obj.mapSeq (·.pop)) } := by
    have := I.write (t' := s.toks) (x := S) (e := S) (o := .lst []) (by rw [hHS]; trivial) (.inl rfl) oth ⟨_, hS₃⟩ ⟨by show 0 ≤ sizeLine; decide, [], _, .nil, by rw [hS₃]; simp [Obj.mapSeq]; rfl⟩
    rw [hu] at this
    exact this
  refine wpAny_pure ⟨plainId_quiet F.plain_extend_loop _, drainZ (res := res) hh D hn hS hend n _ H [] (by simp) I1 hf ((show ZAny s.heap z TI TO i1 i2 from .inl ⟨hz, hTO⟩).upd hS oth ⟨_, hS₃⟩) ?_ ?_ ?_ ?_ ha hb (fun i u e => by simp at e) h0 h0S hHS⟩
  · exact oth _ _ (fun q => hS (by simp [← q])) hTI
  · obtain ⟨_, _, e⟩ := hTO
    exact ⟨_, _, oth _ _ (fun q => hS (by simp [← q])) e⟩
  · exact h1.at fun o e => oth _ _ (fun q => hS (by simp [← q])) e
  · exact h2.at fun o e => oth _ _ (fun q => hS (by simp [← q])) e
/-- what list(zip(..)) and tuple(zip(..)) give -/
def ZOut (H0 : Hp) (xs ys : List V) (Q : List V → Hp → Prop) : Prop := ∀ H us, us.length = min xs.length ys.length → Same H0 H → Prs H0 H xs ys us → Q us H
theorem fresh5 {s1 : Shared} {H1 : Hp} {S : Addr} (I1 : Inv X pins σ H1 s1) (hS : s1.heap.objs.size + 5 ≤ S) {o : HO} : ∀ c, c ∈ [s1.heap.objs.size + 4, s1.heap.objs.size + 2, s1.heap.objs.size + 3, s1.heap.objs.size, s1.heap.objs.size + 1] → FpOk X pins (upd H1 S o) c := fun c hcm => by
  have e' : c = s1.heap.objs.size + 4 ∨ c = s1.heap.objs.size + 2 ∨ c = s1.heap.objs.size + 3 ∨ c = s1.heap.objs.size ∨ c = s1.heap.objs.size + 1 := by simpa using hcm
  have hle : s1.heap.objs.size ≤ c ∧ c < s1.heap.objs.size + 5 := by
    generalize s1.heap.objs.size = n at e'
    have e' : (c : Nat) = n + 4 ∨ (c : Nat) = n + 2 ∨ (c : Nat) = n + 3 ∨ (c : Nat) = n ∨ (c : Nat) = n + 1 := e'
    show (n : Nat) ≤ c ∧ (c : Nat) < n + 5
    omega
  refine I1.fpOk hle.1 ?_
  rw [upd_ne (Nat.ne_of_lt (Nat.lt_of_lt_of_le hle.2 hS))]
  exact I1.hok.fresh hle.1
theorem not5 {n S : Nat} (hS : n + 5 ≤ S) : S ∉ [n + 4, n + 2, n + 3, n, n + 1] := fun hcm => by
  have e' : S = n + 4 ∨ S = n + 2 ∨ S = n + 3 ∨ S = n ∨ S = n + 1 := by simpa using hcm
  omega
/-- list(zip(a, b)) -/
theorem listZ {s1 s2 : Shared} {H1 : Hp} {h' : Heap} {Q : VK} (I1 : Inv X pins σ H1 s1) (hh : A.handled = none) (ha : H1 a = some (.tup xs)) (hb : H1 b = some (.tup ys)) (la : a < s1.heap.objs.size) (lb : b < s1.heap.objs.size)
    (e2 : s2 = { s1 with heap := h' }) (hz : IsZip h' (s1.heap.objs.size + 4) (s1.heap.objs.size + 2) (s1.heap.objs.size + 3) .none) (hTI : IsPair h' (s1.heap.objs.size + 2) (.ref s1.heap.objs.size) (.ref (s1.heap.objs.size + 1)))
    (hTO : IsPair h' (s1.heap.objs.size + 3) .none .none) (h1 : h'.IsTupleIter s1.heap.objs.size a 0) (h2 : h'.IsTupleIter (s1.heap.objs.size + 1) b 0) (hsz : h'.objs.size = s1.heap.objs.size + 5)
    (hk : ∀ c o, s1.heap.get? c = some o → h'.get? c = some o) {E : Value → Shared → Prop}
    (hQ : ∀ H us S, us.length = min xs.length ys.length → Same H1 H → Prs H1 H xs ys us → H1 S = none → H S = some (.lst us) → Q (.ref S) H) :
    wpAny (model X.prog X.w) A (call (.type "list") [.ref (s1.heap.objs.size + 4)]) (fun u s' => ∃ v H, Inv X pins σ H s' ∧ RelV v u ∧ Q v H) E s2 := by
  subst e2
  have I2 : Inv X pins σ H1 { s1 with heap := h' } := I1.kept (t' := s1.toks) hk
  refine callType_codes (Q₁ := fun obj s₁ => obj = .ref h'.objs.size ∧ s₁ = { s1 with heap := h'.push { cls := .type "list", data := .seq #[] } }) F.called_list (F.typeCall_list_1 _) F.entry_list_init
    (code_list_new _ ⟨rfl, rfl⟩) fun obj s₁ h₁ => ?_
  obtain ⟨rfl, rfl⟩ := h₁
  have hS : (h'.push { cls := .type "list", data := .seq #[] }).get? h'.objs.size = some { cls := .type "list", data := .seq #[] } := Heap.get?_push_size _ rfl
  refine ⟨⟨_, hS, rfl⟩, F.args_list_init_2 _ _, ?_⟩
  show wpAny _ A.in1.in1 (do let old ← Builtin.List.listItems (.ref h'.objs.size); Builtin.List.listUpdate (.ref h'.objs.size) (fun _ => #[]); letGo old.toList.reverse; Builtin.List.listExtendWith (.ref h'.objs.size) (.ref (s1.heap.objs.size + 4)) .none) _ _ _
  refine wpAny_bind ?_
  unfold Builtin.List.listItems
  refine wpAny_bind (wpAny_seqItems hS rfl (wpAny_pure ?_))
  show wpAny _ A.in1.in1 (updateSeq h'.objs.size (fun _ => #[]) >>= fun _ => letGo (#[] : Array Value).toList.reverse >>= fun _ => Builtin.List.listExtendWith (.ref h'.objs.size) (.ref (s1.heap.objs.size + 4)) .none) _ _ _
  refine wpAny_bind (wpAny_updateSeq hS rfl ?_)
  have hS2 := Heap.get?_update_self (Obj.mapSeq (fun _ => (#[] : Array Value))) hS rfl
  refine wpAny_bind (wpAny_letGo ?_)
  have k2 : ∀ b o, h'.get? b = some o → ((h'.push { cls := .type "list", data := .seq #[] }).update h'.objs.size (Obj.mapSeq (fun _ => (#[] : Array Value)))).get? b = some o := fun b o e =>
    (Heap.get?_update_other _ _ (Ne.symm (Nat.ne_of_lt (Heap.lt_size e)))).trans (Heap.get?_push_of_some _ e)
  have I3 : Inv X pins σ (upd H1 h'.objs.size (.lst [])) { s1 with heap := (h'.push { cls := .type "list", data := .seq #[] }).update h'.objs.size (Obj.mapSeq (fun _ => (#[] : Array Value))) } :=
    I2.laid (t' := s1.toks) k2 (Nat.le_refl _) ⟨by show 0 ≤ sizeLine; decide, [], _, .nil, by rw [hS2]; simp [Obj.mapSeq]; rfl⟩
  have hSn : H1 h'.objs.size = none := I2.hok.fresh (Nat.le_refl _)
  have hle : s1.heap.objs.size + 5 ≤ h'.objs.size := Nat.le_of_eq hsz.symm
  have hal : ∀ {c : Addr} {u : HO}, H1 c = some u → upd H1 h'.objs.size (.lst []) c = some u := fun {c u} e => by rw [upd_ne (fun q => by rw [q, hSn] at e; cases e)]; exact e
  exact extendZ (A := A.in1) (H0 := H1) (n := min xs.length ys.length) hh (PySem.W.ktu_apart s1.heap.objs.size a b la lb) rfl (not5 hle) I3 (fresh5 I1 hle) (k2 _ _ hz) (k2 _ _ hTI) ⟨_, _, k2 _ _ hTO⟩
    (h1.at fun o e => k2 _ _ e) (h2.at fun o e => k2 _ _ e) (hal ha) (hal hb) upd_same (fun c u e => hal e) hSn
    fun s' H' us I' hl hp hs hH => ⟨rfl, .ref h'.objs.size, H', I', rfl, hQ H' us _ hl hs hp hSn hH⟩
/-- the zip collected -/
theorem collectZ {s1 s2 : Shared} {H1 : Hp} {h' : Heap} {Q : List Value → Shared → Prop} (I1 : Inv X pins σ H1 s1) (hh : A.handled = none) (ha : H1 a = some (.tup xs)) (hb : H1 b = some (.tup ys)) (la : a < s1.heap.objs.size) (lb : b < s1.heap.objs.size)
    (e2 : s2 = { s1 with heap := h' }) (hz : IsZip h' (s1.heap.objs.size + 4) (s1.heap.objs.size + 2) (s1.heap.objs.size + 3) .none) (hTI : IsPair h' (s1.heap.objs.size + 2) (.ref s1.heap.objs.size) (.ref (s1.heap.objs.size + 1)))
    (hTO : IsPair h' (s1.heap.objs.size + 3) .none .none) (h1 : h'.IsTupleIter s1.heap.objs.size a 0) (h2 : h'.IsTupleIter (s1.heap.objs.size + 1) b 0) (hsz : h'.objs.size = s1.heap.objs.size + 5)
    (hk : ∀ c o, s1.heap.get? c = some o → h'.get? c = some o) {E : Value → Shared → Prop}
    (hQ : ∀ s' H us its, Inv X pins σ H s' → us.length = min xs.length ys.length → Same H1 H → Prs H1 H xs ys us → Vals us its → us.length ≤ sizeLine → Q its s') :
    wpAny (model X.prog X.w) A (collect (.ref (s1.heap.objs.size + 4))) Q E s2 := by
  subst e2
  have I2 : Inv X pins σ H1 { s1 with heap := h' } := I1.kept (t' := s1.toks) hk
  unfold collect
  refine wpAny_bind (wpAny_runValue (codeAny_builtin F.entry_proto_collect ?_))
  rw [Around.under_plainId F.plain_proto_collect _]
  show wpAny _ A.in1 (newList [] >>= fun l => again (.builtin "list.__iadd__" ⟨[l, .ref (s1.heap.objs.size + 4)], []⟩)) _ _ _
  refine wpAny_bind (wpAny_newObj_type ?_)
  refine wpAny_pure ⟨plainId_quiet F.plain_list_iadd _, codeAny_builtin F.entry_list_iadd ?_⟩
  rw [Around.under_plainId F.plain_list_iadd _]
  show wpAny _ A.in1 (Builtin.List.listExtendWith (.ref h'.objs.size) (.ref (s1.heap.objs.size + 4)) (.ref h'.objs.size)) _ _ _
  have hS : (h'.push { cls := .type "list", data := .seq ([] : List Value).toArray }).get? h'.objs.size = some { cls := .type "list", data := .seq #[] } := Heap.get?_push_size _ rfl
  have k2 : ∀ b o, h'.get? b = some o → (h'.push { cls := .type "list", data := .seq ([] : List Value).toArray }).get? b = some o := fun b o e => Heap.get?_push_of_some _ e
  have I3 : Inv X pins σ (upd H1 h'.objs.size (.lst [])) { s1 with heap := h'.push { cls := .type "list", data := .seq ([] : List Value).toArray } } :=
    I2.laid (t' := s1.toks) k2 (Nat.le_refl _) ⟨by show 0 ≤ sizeLine; decide, [], _, .nil, by rw [hS]⟩
  have hSn : H1 h'.objs.size = none := I2.hok.fresh (Nat.le_refl _)
  have hle : s1.heap.objs.size + 5 ≤ h'.objs.size := Nat.le_of_eq hsz.symm
  have hal : ∀ {c : Addr} {u : HO}, H1 c = some u → upd H1 h'.objs.size (.lst []) c = some u := fun {c u} e => by rw [upd_ne (fun q => by rw [q, hSn] at e; cases e)]; exact e
  refine wpAny_mono (extendZ (A := A) (R := fun rr s' => rr = .ok (.ret (.ref h'.objs.size)) ∧ ∃ H' us, Inv X pins σ H' s' ∧ us.length = min xs.length ys.length ∧ Prs H1 H' xs ys us ∧ Same H1 H' ∧ H' h'.objs.size = some (.lst us))
    (H0 := H1) (n := min xs.length ys.length) hh (PySem.W.ktu_apart s1.heap.objs.size a b la lb) rfl (not5 hle) I3 (fresh5 I1 hle) (k2 _ _ hz) (k2 _ _ hTI) ⟨_, _, k2 _ _ hTO⟩
    (h1.at fun o e => k2 _ _ e) (h2.at fun o e => k2 _ _ e) (hal ha) (hal hb) upd_same (fun c u e => hal e) hSn
    fun s' H' us I' hl hp hs hH => ⟨rfl, H', us, I', hl, hp, hs, hH⟩) (fun fin s' h => ?_) (fun e s' h => ?_)
  · cases fin with
    | done f =>
      obtain ⟨e, H', us, I', hl, hp, hs, hH⟩ := h
      cases e
      obtain ⟨hle', its, c, ru, eS⟩ := I'.hok _ _ hH
      show wpAny _ A (load h'.objs.size >>= _) _ _ _
      exact wpAny_bind (wpAny_load eS (wpAny_pure (hQ _ H' us _ I' hl hs hp (by simpa using ru) hle')))
    | again c' =>
      refine ⟨h.1, codeAny_mono h.2 fun rr s'' hr' => ?_⟩
      obtain ⟨rfl, H', us, I', hl, hp, hs, hH⟩ := hr'
      obtain ⟨hle', its, c, ru, eS⟩ := I'.hok _ _ hH
      show wpAny _ A (load h'.objs.size >>= _) _ _ _
      exact wpAny_bind (wpAny_load eS (wpAny_pure (hQ _ H' us _ I' hl hs hp (by simpa using ru) hle')))
  · exact absurd h.1 (by simp)
/-- tuple(zip(a, b)) -/
theorem tupleZ {s1 s2 : Shared} {H1 : Hp} {h' : Heap} {Q : VK} (I1 : Inv X pins σ H1 s1) (hh : A.handled = none) (ha : H1 a = some (.tup xs)) (hb : H1 b = some (.tup ys)) (la : a < s1.heap.objs.size) (lb : b < s1.heap.objs.size)
    (e2 : s2 = { s1 with heap := h' }) (hz : IsZip h' (s1.heap.objs.size + 4) (s1.heap.objs.size + 2) (s1.heap.objs.size + 3) .none) (hTI : IsPair h' (s1.heap.objs.size + 2) (.ref s1.heap.objs.size) (.ref (s1.heap.objs.size + 1)))
    (hTO : IsPair h' (s1.heap.objs.size + 3) .none .none) (h1 : h'.IsTupleIter s1.heap.objs.size a 0) (h2 : h'.IsTupleIter (s1.heap.objs.size + 1) b 0) (hsz : h'.objs.size = s1.heap.objs.size + 5)
    (hk : ∀ c o, s1.heap.get? c = some o → h'.get? c = some o) {E : Value → Shared → Prop}
    (hQ : ∀ H us l, us.length = min xs.length ys.length → Same H1 H → Prs H1 H xs ys us → H l = none → Q (.ref l) (upd H l (.tup us))) :
    wpAny (model X.prog X.w) A (call (.type "tuple") [.ref (s1.heap.objs.size + 4)]) (fun u s' => ∃ v H, Inv X pins σ H s' ∧ RelV v u ∧ Q v H) E s2 := by
  refine callType_codes (Q₁ := fun obj s₁ => s₁.TypeIs obj "tuple" ∧ ∃ v H, Inv X pins σ H s₁ ∧ RelV v obj ∧ Q v H) F.called_tuple (F.typeCall_tuple_1 _) F.entry_object_init ?_
    fun obj s₁ h₁ => ⟨h₁.1, F.args_object_init_2 obj _, object_init_meets F.called_tuple.init.lookup F.called_tuple.made (by decide) X.prog X.w A.in1 _ s₁ ⟨h₁.1, rfl, h₁.2⟩⟩
  refine codeAny_of_tree ?_
  show wpAny _ A.in1.in1 (do checkBuiltinCall "tuple.__new__" ⟨[.type "tuple", .ref (s1.heap.objs.size + 4)], []⟩; again (.builtin "tuple.__new__" ⟨[.type "tuple", .ref (s1.heap.objs.size + 4)], []⟩)) _ _ s2
  refine wpAny_bind (wpAny_of_eq (F.newCall_tuple_1 _) (wpAny_pure ⟨plainId_quiet F.plain_tuple_new _, codeAny_builtin F.entry_tuple_new ?_⟩))
  rw [Around.under_plainId F.plain_tuple_new _]
  have hsub := sub_tuple_self
  have hinit := init_tuple_lookup
  have hmh := madeHere_tuple
  have hTy : s2.TypeIs (.ref (s1.heap.objs.size + 4)) "zip" := by subst e2; exact ⟨_, hz, rfl⟩
  have hh1 : A.in1.in1.handled = none := hh
  wp_walk using wpAny_typeOf hTy, collectZ (A := A.in1.in1) I1 hh1 ha hb la lb e2 hz hTI hTO h1 h2 hsz hk
  intro s' H us its I' hl hs hp rv hle
  show wpAny _ _ (Builtin.Tuple.tupleExact its.toArray >>= fun v => ret v) _ _ _
  unfold Builtin.Tuple.tupleExact
  have hl2 := rv.length
  refine wpAny_bind (wpAny_newObj_type ?_ (by show its.toArray.size ≤ sizeLine; rw [List.size_toArray]; omega))
  refine wpAny_pure ?_
  have hg : (s'.heap.push { cls := .type "tuple", data := .seq its.toArray }).get? s'.heap.objs.size = some { cls := .type "tuple", data := .seq its.toArray } := Heap.get?_push_size _ rfl
  exact ⟨⟨_, hg, rfl⟩, .ref s'.heap.objs.size, upd H s'.heap.objs.size (.tup us),
    I'.laid (t' := s'.toks) (fun b o e => Heap.get?_push_of_some _ e) (Nat.le_refl _) ⟨hle, its, rv, ⟨_, hg, rfl, _, rfl⟩⟩, rfl, hQ H us _ hl hs hp (I'.hok.fresh (Nat.le_refl _))⟩
end
/-! ### the expressions -/
section
variable {X : Cx} {O : List Nat} {W : WX} {f g : EF} {e e2 : Expr} {p p2 q pos : Pos}
def tZipL (ta : TA) : TE := fun σ H Q => ta σ H fun vs H1 => ∃ a b xs ys, vs = [.ref a, .ref b] ∧ H1 a = some (.tup xs) ∧ H1 b = some (.tup ys) ∧
  ∀ H us S, us.length = min xs.length ys.length → Same H1 H → Prs H1 H xs ys us → H1 S = none → H S = some (.lst us) → Q (.ref S) H
def tZipT (ta : TA) : TE := fun σ H Q => ta σ H fun vs H1 => ∃ a b xs ys, vs = [.ref a, .ref b] ∧ H1 a = some (.tup xs) ∧ H1 b = some (.tup ys) ∧
  ∀ H us l, us.length = min xs.length ys.length → Same H1 H → Prs H1 H xs ys us → H l = none → Q (.ref l) (upd H l (.tup us))
theorem pe_listZip {ta : TA} (hg : Gl X "list") (hm : X.mg "list" = none) (hgz : Gl X "zip") (hmz : X.mg "zip" = none) (ha : PA X [e, e2] ta) (hc : X.calm = true := by rfl)
    (hs : starEach [e, e2] X.env = (false, eval e X.env) :: starEach [e2] X.env := by rfl) (hpl : (backTo q (starEach [e2] X.env)).any (·.1) = false := by rfl)
    (na : starEach [Expr.Call (.Name "zip" p2) [e, e2] [] q] X.env = (false, eval (.Call (.Name "zip" p2) [e, e2] [] q) X.env) :: starEach [] X.env := by rfl) :
    PE X (.Call (.Name "list" p) [.Call (.Name "zip" p2) [e, e2] [] q] [] pos) (tZipL ta) := by
  refine ⟨fun pins s σ H Q I h => ?_⟩
  refine Call_ (ld_blt I hg hm boot_list (PyProof.Rows.callWith_type1 (PyProof.Rows.args_cons ?_ na) na))
  refine Call_ (ld_blt I hgz hmz PyProof.Rows.boot_zip (PyProof.Rows.callWith_type1 (thn (ha.run q pins s σ H _ I h) fun us s1 ⟨vs, H1, I1, r1, q1⟩ => ?_) hs hpl))
  obtain ⟨a, b, xs, ys, ex, hqx, hqy, q1⟩ := q1
  subst ex
  cases r1 with
  | cons r rr =>
    cases rr with
    | cons r' rr =>
      cases rr
      cases r
      cases r'
      obtain ⟨its, rv, p1, _⟩ := I1.tuple (SqT.of hqx)
      obtain ⟨its2, rv2, p2, _⟩ := I1.tuple (SqT.of hqy)
      obtain ⟨o1, ho1, _⟩ := id p1
      obtain ⟨o2, ho2, _⟩ := id p2
      refine RZ.call_zipT (show s1.heap.IsTuple a its.toArray from p1) (show s1.heap.IsTuple b its2.toArray from p2) fun h' hz hTI hTO h1 h2 hsz hk => PyProof.Rows.args_nil ?_
      exact listZ I1 (I1.ok.hd hc) hqx hqy (Heap.lt_size ho1) (Heap.lt_size ho2) rfl hz hTI hTO h1 h2 hsz hk q1
theorem pe_tupZip {ta : TA} (hg : Gl X "tuple") (hm : X.mg "tuple" = none) (hgz : Gl X "zip") (hmz : X.mg "zip" = none) (ha : PA X [e, e2] ta) (hc : X.calm = true := by rfl)
    (hs : starEach [e, e2] X.env = (false, eval e X.env) :: starEach [e2] X.env := by rfl) (hpl : (backTo q (starEach [e2] X.env)).any (·.1) = false := by rfl)
    (na : starEach [Expr.Call (.Name "zip" p2) [e, e2] [] q] X.env = (false, eval (.Call (.Name "zip" p2) [e, e2] [] q) X.env) :: starEach [] X.env := by rfl) :
    PE X (.Call (.Name "tuple" p) [.Call (.Name "zip" p2) [e, e2] [] q] [] pos) (tZipT ta) := by
  refine ⟨fun pins s σ H Q I h => ?_⟩
  refine Call_ (ld_blt I hg hm boot_tuple (PyProof.Rows.callWith_type1 (PyProof.Rows.args_cons ?_ na) na))
  refine Call_ (ld_blt I hgz hmz PyProof.Rows.boot_zip (PyProof.Rows.callWith_type1 (thn (ha.run q pins s σ H _ I h) fun us s1 ⟨vs, H1, I1, r1, q1⟩ => ?_) hs hpl))
  obtain ⟨a, b, xs, ys, ex, hqx, hqy, q1⟩ := q1
  subst ex
  cases r1 with
  | cons r rr =>
    cases rr with
    | cons r' rr =>
      cases rr
      cases r
      cases r'
      obtain ⟨its, rv, p1, _⟩ := I1.tuple (SqT.of hqx)
      obtain ⟨its2, rv2, p2, _⟩ := I1.tuple (SqT.of hqy)
      obtain ⟨o1, ho1, _⟩ := id p1
      obtain ⟨o2, ho2, _⟩ := id p2
      refine RZ.call_zipT (show s1.heap.IsTuple a its.toArray from p1) (show s1.heap.IsTuple b its2.toArray from p2) fun h' hz hTI hTO h1 h2 hsz hk => PyProof.Rows.args_nil ?_
      exact tupleZ I1 (I1.ok.hd hc) hqx hqy (Heap.lt_size ho1) (Heap.lt_size ho2) rfl hz hTI hTO h1 h2 hsz hk q1
end
theorem RepL.of {K : PySem.W.Frag} {mg : Str → Option Value} {F : Hp} : ∀ {ds : List D} {vs : List V}, vs.length = ds.length → (∀ (i : Nat) d v, ds[i]? = some d → vs[i]? = some v → Rep K mg F d v) → RepL K mg F ds vs
  | [], [], _, _ => by simp [RepL]
  | d :: ds, v :: vs, hl, h => by
    simp only [RepL]
    exact ⟨v, vs, rfl, h 0 d v rfl rfl, RepL.of (by simpa using hl) fun i d v h1 h2 => h (i + 1) d v h1 h2⟩
/-- F with all that is new in H -/
def grow (F H0 H : Hp) : Hp := fun c => if H0 c = none then H c else F c
theorem grow_ext {F H0 H : Hp} (s : Same F H0) (h : Same H0 H) : Ext F H0 (grow F H0 H) H := by
  refine ⟨fun c u e => ?_, h, fun c u e => ?_, fun c e => ?_⟩
  · unfold grow; rw [if_neg (by rw [s _ _ e]; simp)]; exact e
  · unfold grow at e
    split at e
    · exact e
    · exact h _ _ (s _ _ e)
  · unfold grow; rw [if_neg e]
theorem prs_rep {K : PySem.W.Frag} {mg : Str → Option Value} {F H0 H : Hp} {as bs : List D} {xs ys us : List V} (s : Same F H0) (h : Same H0 H) (ra : RepL K mg F as xs) (rb : RepL K mg F bs ys) (hl : us.length = min xs.length ys.length) (hp : Prs H0 H xs ys us) :
    RepL K mg (grow F H0 H) (zipD as bs) us := by
  have e := (grow_ext s h).ff
  refine RepL.of (by rw [zipD, List.length_map, List.length_zip, hl, ra.len, rb.len]) fun i d v hd hv => ?_
  obtain ⟨T, x, y, rfl, hx, hy, h0, hT⟩ := hp i v hv
  obtain ⟨dx, ex, rx⟩ := ra.get' hx
  obtain ⟨dy, ey, ry⟩ := rb.get' hy
  have ez : (as.zip bs)[i]? = some (dx, dy) := List.getElem?_zip_eq_some.mpr ⟨ex, ey⟩
  rw [zipD, List.getElem?_map, ez] at hd
  cases hd
  simp only [Rep, RepL]
  exact ⟨T, [x, y], rfl, by unfold grow; rw [if_pos h0]; exact hT, ⟨x, [y], rfl, Rep.mono e _ _ rx, y, [], rfl, Rep.mono e _ _ ry, rfl⟩, by show 2 ≤ sizeLine; decide⟩
section
variable {X : Cx} {O : List Nat} {W : WX} {f g : EF} {e e2 : Expr} {p p2 q pos : Pos}
theorem pd_listZip (hg : Gl X "list") (hm : X.mg "list" = none) (hgz : Gl X "zip") (hmz : X.mg "zip" = none) (ha : PD X .rep O W f e) (hb : PD X .rep O W g e2) (hc : X.calm = true := by rfl) (hs : starEach [e, e2] X.env = (false, eval e X.env) :: starEach [e2] X.env := by rfl) (hs2 : starEach [e2] X.env = [(false, eval e2 X.env)] := by rfl) (hpl : (backTo q (starEach [e2] X.env)).any (·.1) = false := by rfl)
    (na : starEach [Expr.Call (.Name "zip" p2) [e, e2] [] q] X.env = (false, eval (.Call (.Name "zip" p2) [e, e2] [] q) X.env) :: starEach [] X.env := by rfl) :
    PD X .rep O W (eF D.bZipL (aC f (aC g aN))) (.Call (.Name "list" p) [.Call (.Name "zip" p2) [e, e2] [] q] [] pos) := by
  have hA : PAD X .rep O W (aC f (aC g aN)) [e, e2] := pad_cons ha (pad_cons hb pad_nil hs2) (by rw [hs, hs2])
  refine PE.imp (pe_listZip hg hm hgz hmz hA hc hs hpl na) fun σ H Q ⟨ρ, F, sr, gl⟩ => ⟨ρ, F, sr, Goal.bindA (show Goal X.K X.mg .rep W σ F H ((aC f (aC g aN) ρ).bind D.bZipL) Q from gl) fun ds vs F1 H1 ed ex hv gl => ?_⟩
  obtain ⟨d, d', rfl⟩ := a2_inv ed
  have hv' : RepL X.K X.mg F1 [d, d'] vs := hv
  simp only [RepL] at hv'
  obtain ⟨v, _, rfl, r1, v2, _, rfl, r2, rfl⟩ := hv'
  match d, d', r1, r2, gl with
  | .tup as, .tup bs, r1, r2, gl =>
    simp only [Rep] at r1 r2
    obtain ⟨a, us, rfl, h1, h2, h3⟩ := r1
    obtain ⟨b, ws, rfl, g1, g2, g3⟩ := r2
    refine ⟨a, b, us, ws, rfl, ex.fh _ _ h1, ex.fh _ _ g1, fun H2 us2 S hl hsm hp h0 hS => ?_⟩
    have gl : Goal X.K X.mg .rep W σ F1 H1 (.ok (.lst (zipD as bs))) Q := gl
    refine gl _ _ _ (grow_ext ex.fh hsm) ?_
    show Rep X.K X.mg _ (.lst (zipD as bs)) (.ref S)
    simp only [Rep]
    exact ⟨S, us2, rfl, by unfold grow; rw [if_pos h0]; exact hS, prs_rep ex.fh hsm h2 g2 hl hp, by rw [zipD, List.length_map, List.length_zip]; omega⟩
  | .tup as, .non, _, _, gl => exact gl.elim
  | .tup as, .bl _, _, _, gl => exact gl.elim
  | .tup as, .int _, _, _, gl => exact gl.elim
  | .tup as, .str _, _, _, gl => exact gl.elim
  | .tup as, .lst _, _, _, gl => exact gl.elim
  | .tup as, .scr _, _, _, gl => exact gl.elim
  | .tup as, .exc _ _, _, _, gl => exact gl.elim
  | .tup as, .fn _, _, _, gl => exact gl.elim
  | .tup as, .dct _, _, _, gl => exact gl.elim
  | .tup as, .dtt _, _, _, gl => exact gl.elim
  | .tup as, .clk _ _ _ _, _, _, gl => exact gl.elim
  | .non, _, _, _, gl => exact gl.elim
  | .bl _, _, _, _, gl => exact gl.elim
  | .int _, _, _, _, gl => exact gl.elim
  | .str _, _, _, _, gl => exact gl.elim
  | .lst _, _, _, _, gl => exact gl.elim
  | .scr _, _, _, _, gl => exact gl.elim
  | .exc _ _, _, _, _, gl => exact gl.elim
  | .fn _, _, _, _, gl => exact gl.elim
  | .dct _, _, _, _, gl => exact gl.elim
  | .dtt _, _, _, _, gl => exact gl.elim
  | .clk _ _ _ _, _, _, _, gl => exact gl.elim
theorem pd_tupZip (hg : Gl X "tuple") (hm : X.mg "tuple" = none) (hgz : Gl X "zip") (hmz : X.mg "zip" = none) (ha : PD X .rep O W f e) (hb : PD X .rep O W g e2) (hc : X.calm = true := by rfl) (hs : starEach [e, e2] X.env = (false, eval e X.env) :: starEach [e2] X.env := by rfl) (hs2 : starEach [e2] X.env = [(false, eval e2 X.env)] := by rfl) (hpl : (backTo q (starEach [e2] X.env)).any (·.1) = false := by rfl)
    (na : starEach [Expr.Call (.Name "zip" p2) [e, e2] [] q] X.env = (false, eval (.Call (.Name "zip" p2) [e, e2] [] q) X.env) :: starEach [] X.env := by rfl) :
    PD X .rep O W (eF D.bZipT (aC f (aC g aN))) (.Call (.Name "tuple" p) [.Call (.Name "zip" p2) [e, e2] [] q] [] pos) := by
  have hA : PAD X .rep O W (aC f (aC g aN)) [e, e2] := pad_cons ha (pad_cons hb pad_nil hs2) (by rw [hs, hs2])
  refine PE.imp (pe_tupZip hg hm hgz hmz hA hc hs hpl na) fun σ H Q ⟨ρ, F, sr, gl⟩ => ⟨ρ, F, sr, Goal.bindA (show Goal X.K X.mg .rep W σ F H ((aC f (aC g aN) ρ).bind D.bZipT) Q from gl) fun ds vs F1 H1 ed ex hv gl => ?_⟩
  obtain ⟨d, d', rfl⟩ := a2_inv ed
  have hv' : RepL X.K X.mg F1 [d, d'] vs := hv
  simp only [RepL] at hv'
  obtain ⟨v, _, rfl, r1, v2, _, rfl, r2, rfl⟩ := hv'
  match d, d', r1, r2, gl with
  | .tup as, .tup bs, r1, r2, gl =>
    simp only [Rep] at r1 r2
    obtain ⟨a, us, rfl, h1, h2, h3⟩ := r1
    obtain ⟨b, ws, rfl, g1, g2, g3⟩ := r2
    refine ⟨a, b, us, ws, rfl, ex.fh _ _ h1, ex.fh _ _ g1, fun H2 us2 l hl hsm hp hn => ?_⟩
    have gl : Goal X.K X.mg .rep W σ F1 H1 (.ok (.tup (zipD as bs))) Q := gl
    have e1 := grow_ext ex.fh hsm
    have e2 := Ext.new (o := .tup us2) e1.fh hn
    refine gl _ _ _ (e1.trans e2) ?_
    show Rep X.K X.mg _ (.tup (zipD as bs)) (.ref l)
    simp only [Rep]
    exact ⟨l, us2, rfl, upd_same, RepL.mono e2.ff _ _ (prs_rep ex.fh hsm h2 g2 hl hp), by rw [zipD, List.length_map, List.length_zip]; omega⟩
  | .tup as, .non, _, _, gl => exact gl.elim
  | .tup as, .bl _, _, _, gl => exact gl.elim
  | .tup as, .int _, _, _, gl => exact gl.elim
  | .tup as, .str _, _, _, gl => exact gl.elim
  | .tup as, .lst _, _, _, gl => exact gl.elim
  | .tup as, .scr _, _, _, gl => exact gl.elim
  | .tup as, .exc _ _, _, _, gl => exact gl.elim
  | .tup as, .fn _, _, _, gl => exact gl.elim
  | .tup as, .dct _, _, _, gl => exact gl.elim
  | .tup as, .dtt _, _, _, gl => exact gl.elim
  | .tup as, .clk _ _ _ _, _, _, gl => exact gl.elim
  | .non, _, _, _, gl => exact gl.elim
  | .bl _, _, _, _, gl => exact gl.elim
  | .int _, _, _, _, gl => exact gl.elim
  | .str _, _, _, _, gl => exact gl.elim
  | .lst _, _, _, _, gl => exact gl.elim
  | .scr _, _, _, _, gl => exact gl.elim
  | .exc _ _, _, _, _, gl => exact gl.elim
  | .fn _, _, _, _, gl => exact gl.elim
  | .dct _, _, _, _, gl => exact gl.elim
  | .dtt _, _, _, _, gl => exact gl.elim
  | .clk _ _ _ _, _, _, _, gl => exact gl.elim
end
end RT

namespace RT
open PySem PySem.Spec PyProof.Rows L2
/-! ### the least of pairs (n, tuple); tuples in order -/
theorem prOf_of {d : D} {p : Int × List Int} (h : D.prOf d = some p) : d = D.prI p := by
  unfold D.prOf at h
  split at h
  · rename_i i xs
    cases hx : D.intsOf xs with
    | none => rw [hx] at h; cases h
    | some l =>
      rw [hx] at h
      cases h
      have := intsOf_of hx
      rw [this]; rfl
  · cases h
theorem prsOf_of : ∀ {ds : List D} {ps : List (Int × List Int)}, D.prsOf ds = some ps → ds = ps.map D.prI
  | [], ps, h => by cases h; rfl
  | d :: ds, ps, h => by
    unfold D.prsOf at h
    split at h
    · rename_i p qs h1 h2
      cases h
      rw [prOf_of h1, prsOf_of h2]; rfl
    · cases h
def pyI (l : List Int) : PyData := .tuple (l.map .int)
def pyP (p : Int × List Int) : PyData := .tuple [.int p.1, pyI p.2]
theorem pyI_inj {l m : List Int} (h : pyI l = pyI m) : l = m := by
  unfold pyI at h
  injection h with h
  exact (List.map_inj_right fun a b e => by injection e).mp h
theorem pyP_inj {p q : Int × List Int} (h : pyP p = pyP q) : p = q := by
  unfold pyP at h
  injection h with h
  injection h with h1 h2
  injection h2 with h2 _
  injection h1 with h1
  exact Prod.ext h1 (pyI_inj h2)
theorem alikeI (l m : List Int) : PySem.W.alike (pyI l) (pyI m) = true := by
  simp only [pyI, PySem.W.alike]
  exact PySem.W.alike_ints _ _
theorem ltI (l m : List Int) : PySem.W.dataLt (pyI l) (pyI m) = decide (l < m) := by
  rw [pyI, pyI, PySem.W.dataLt_tuple]
  exact PySem.W.dataLt_ints _ _
theorem ltP_py (p q : Int × List Int) : PySem.W.dataLt (pyP p) (pyP q) = D.ltP p q := by
  have h1 : PySem.W.alike (.int p.1) (.int q.1) = true := by simp [PySem.W.alike]
  rw [pyP, pyP, PySem.W.dataLt_pair h1 (alikeI _ _), ltI, PySem.W.dataLt_int]
  have h2 : (if PyData.eqv (pyI p.2) (pyI q.2) = true then false else decide (p.2 < q.2)) = decide (p.2 < q.2) := by
    split
    · rename_i e
      have e1 := (PySem.W.toks_eqv _ _ (alikeI p.2 q.2)).1 e
      rw [← ltI, PySem.W.dataLt, e1]
      exact (PyProof.Rows.lex_irrefl _).symm
    · rfl
  rw [h2, D.ltP]
  have h3 : PyData.eqv (.int p.1) (.int q.1) = decide (p.1 = q.1) := by simp [PyData.eqv]; rfl
  rw [h3]
  by_cases h : p.1 = q.1
  · rw [if_pos (decide_eq_true h), if_pos h]
  · rw [if_neg (by rw [decide_eq_false h]; decide), if_neg h]
theorem minP_py (p : Int × List Int) : ∀ ps : List (Int × List Int), PySem.W.minD (pyP p) (ps.map pyP) = pyP (D.minP p ps) := by
  intro ps
  unfold PySem.W.minD D.minP
  induction ps generalizing p with
  | nil => rfl
  | cons q ps ih =>
    rw [List.map_cons, List.foldl_cons, List.foldl_cons, ltP_py]
    rw [← ih]
    congr 1
    split <;> rfl
theorem py_pr (p : Int × List Int) : py (D.prI p) = pyP p := by
  have h : ∀ l : List Int, pyL (l.map D.int) = l.map PyData.int := fun l => by
    induction l with
    | nil => rfl
    | cons i l ih => simp only [List.map_cons, pyL, py, ih]
  simp only [D.prI, D.tupI, py, pyL, h, pyP, pyI]
section
variable {K : PySem.W.Frag} {mg : Str → Option Value} {F H : Hp}
theorem repI_dp {l : List Int} {v : V} (s : Same F H) (h : Rep K mg F (D.tupI l) v) : Dp K H v (pyI l) := by
  simp only [D.tupI, Rep] at h
  obtain ⟨a, ws, rfl, g1, g2, g3⟩ := h
  have := repL_ints g2
  subst this
  exact .tup (SqT.of (s _ _ g1)) (dp_ints l)
theorem repP_dp {p : Int × List Int} {v : V} (s : Same F H) (h : Rep K mg F (D.prI p) v) : Dp K H v (pyP p) := by
  simp only [D.prI, Rep, RepL] at h
  obtain ⟨a, ws, rfl, g1, ⟨v1, _, rfl, rfl, v2, _, rfl, g2, rfl⟩, g3⟩ := h
  exact .tup (SqT.of (s _ _ g1)) (.cons (.int _) (.cons (repI_dp s g2) .nil))
theorem repPs_dp (s : Same F H) : ∀ {ps : List (Int × List Int)} {vs : List V}, RepL K mg F (ps.map D.prI) vs → DpAll K H vs (ps.map pyP)
  | [], vs, h => by simp only [List.map_nil, RepL] at h; subst h; exact .nil
  | p :: ps, vs, h => by
    simp only [List.map_cons, RepL] at h
    obtain ⟨v, vs', rfl, h1, h⟩ := h
    exact .cons (repP_dp s h1) (repPs_dp s h)
end
theorem layI (l : List Int) : (pyI l).canLay0 = true ∧ (pyI l).depth ≤ 1 := by
  have h : ∀ l : List Int, PyData.canLayAll0 (l.map PyData.int) = true := fun l => by
    induction l with
    | nil => rfl
    | cons i l ih => simp [PyData.canLayAll0, PyData.canLay0, ih]
  constructor
  · simp only [pyI, PyData.canLay0, h]
  · simp only [pyI, PyData.depth, PySem.W.depth_ints]; omega
theorem layP (p : Int × List Int) : (pyP p).canLay0 = true ∧ (pyP p).depth ≤ 2 := by
  obtain ⟨h1, h2⟩ := layI p.2
  constructor
  · simp [pyP, PyData.canLay0, PyData.canLayAll0, h1]
  · simp only [pyP, PyData.depth, PyData.depthAll]; omega
theorem depthPs : ∀ ps : List (Int × List Int), PyData.depthAll (ps.map pyP) ≤ 2
  | [] => by simp [PyData.depthAll]
  | p :: ps => by
    have h1 := (layP p).2
    have h2 := depthPs ps
    simp only [List.map_cons, PyData.depthAll]; omega
def rMinP (K : PySem.W.Frag) : List V → Hp → VK → Prop := fun vs H Q => ∃ (a : Addr) (ys : List V) (p : Int × List Int) (ps : List (Int × List Int)), vs = [V.ref a] ∧ SqL K H a ys ∧ DpAll K H ys ((p :: ps).map pyP) ∧
  ∀ (i : Nat) v, ys[i]? = some v → (p :: ps)[i]? = some (D.minP p ps) → Q v H
theorem cr_minP {X : Cx} (hc : X.calm = true) (hu : X.A.units + 64 < cLine) : CallR X (.builtin "min") (rMinP X.K) := by
  intro pins s σ H vs us Q I r h
  obtain ⟨a, ys, p, ps, rfl, hs, hd, q⟩ := h
  obtain ⟨its, rv, hl, hz⟩ := I.list hs
  rw [Vals.ref1 r]
  obtain ⟨as, hr⟩ := Dp.readsAll I _ _ _ hd rv
  have hr : ReadsAll s.heap its.toArray.toList (pyP p :: ps.map pyP) as := by simpa using hr
  refine PySem.W.min_list_data (I.ok.hd hc) hl.isList hr ⟨fun x hx y hy => ?_, fun x hx => ?_⟩ ?_ fun i v h' tk bs hv rd hk => ?_
  · rw [← List.map_cons] at hx hy
    obtain ⟨p1, _, rfl⟩ := List.mem_map.mp hx
    obtain ⟨p2, _, rfl⟩ := List.mem_map.mp hy
    have h1 : PySem.W.alike (.int p1.1) (.int p2.1) = true := by simp [PySem.W.alike]
    simp [pyP, PySem.W.alike, PySem.W.alikeAll, h1, alikeI]
  · rw [← List.map_cons] at hx
    obtain ⟨p1, _, rfl⟩ := List.mem_map.mp hx
    exact fun e => nomatch e
  · have := depthPs (p :: ps)
    rw [List.map_cons] at this
    omega
  · rw [minP_py] at rd
    have hv' : its[i]? = some v := by simpa using hv
    have hi : i < its.length := (List.getElem?_eq_some_iff.mp hv').1
    have hlen := rv.length
    obtain ⟨y, hy⟩ : ∃ y, ys[i]? = some y := ⟨_, List.getElem?_eq_getElem (by omega)⟩
    obtain ⟨u, hu1, ru⟩ := rv.get hy
    rw [hv'] at hu1
    cases hu1
    obtain ⟨bs', r', _, _, _⟩ := PySem.W.readsAll_atA hr i v hv
    have hpl : i < (p :: ps).length := by
      have := PySem.W.readsAll_len hr
      simp only [List.size_toArray, List.length_cons, List.length_map] at this
      rw [List.length_cons]; omega
    have eg : (pyP p :: ps.map pyP).getD i .none = pyP ((p :: ps)[i]) := by
      rw [← List.map_cons, List.getD_eq_getElem?_getD, List.getElem?_map, List.getElem?_eq_getElem hpl]; rfl
    rw [eg] at r'
    have e := (Reads.unique (PySem.W.reads_keeps hk r') _ _ rd).1
    exact ⟨y, H, I.kept (t' := tk) hk, ru, q i y hy (by rw [List.getElem?_eq_getElem hpl, pyP_inj e])⟩
def rLtT (K : PySem.W.Frag) : R2 := fun x y H Q => ∃ l m : List Int, Dp K H x (pyI l) ∧ Dp K H y (pyI m) ∧ Q (.bl (decide (l < m))) H
theorem op_ltT {X : Cx} (hu : X.A.units + 64 < cLine) : OpR X (compareOp .Lt) (rLtT X.K) := by
  intro pins s σ H x y v u Q I rx ry h
  obtain ⟨l, m, h1, h2, q⟩ := h
  obtain ⟨as, r1⟩ := Dp.reads I _ _ _ h1 rx
  obtain ⟨bs, r2⟩ := Dp.reads I _ _ _ h2 ry
  refine PySem.W.lt_data r1 r2 (alikeI l m) (fun e => nomatch e) (by have := (layI l).2; have := Nat.min_le_left (pyI l).depth (pyI m).depth; omega) ?_
  rw [ltI]
  exact ⟨.bl (decide (l < m)), H, I, rfl, q⟩
theorem ok_ltT {K : PySem.W.Frag} {mg : Str → Option Value} : Ok2 K mg (rLtT K) D.ltT := by
  intro W σ F H dx dy x y Q s hx hy q
  unfold D.ltT at q
  split at q
  · rename_i xs ys
    split at q
    · rename_i a b ea eb
      have ex := intsOf_of ea
      have ey := intsOf_of eb
      subst ex ey
      have r1 : Rep K mg F (D.tupI a) x := hx
      have r2 : Rep K mg F (D.tupI b) y := hy
      exact ⟨a, b, repI_dp s r1, repI_dp s r2, gBl s q⟩
    · exact q.elim
  · exact q.elim
section
variable {X : Cx} {O : List Nat} {W : WX} {f : EF} {e : Expr} {p pos : Pos}
theorem pd_minP (hc : X.calm = true) (hu : X.A.units + 64 < cLine) (hg : Gl X "min") (hm : X.mg "min" = none) (ha : PD X .rep O W f e) (hs : starEach [e] X.env = (false, eval e X.env) :: starEach [] X.env := by rfl) (hpl : (backTo pos (starEach [] X.env)).any (·.1) = false := by rfl) :
    PD X .rep O W (eF D.bMinP (aC f aN)) (.Call (.Name "min" p) [e] [] pos) := by
  have hA : PAD X .rep O W (aC f aN) [e] := pad_cons ha pad_nil hs
  refine PE.imp (pe_callB (cr_minP hc hu) hg hm rfl hA (by decide) (by decide) hs hpl) fun σ H Q ⟨ρ, F, sr, gl⟩ => ⟨ρ, F, sr, Goal.bindA (show Goal X.K X.mg .rep W σ F H ((aC f aN ρ).bind D.bMinP) Q from gl) fun ds vs F1 H1 ed ex hv gl => ?_⟩
  obtain ⟨d, rfl⟩ := a1_inv ed
  have hv' : RepL X.K X.mg F1 [d] vs := hv
  simp only [RepL] at hv'
  obtain ⟨v, _, rfl, r1, rfl⟩ := hv'
  unfold D.bMinP at gl
  split at gl
  · rename_i xs heq
    cases heq
    split at gl
    · rename_i q ps hp
      have hp := prsOf_of hp
      subst hp
      simp only [Rep] at r1
      obtain ⟨a, us, rfl, h1, h2, h3⟩ := r1
      refine ⟨a, us, q, ps, rfl, SqL.of (ex.fh _ _ h1), repPs_dp ex.fh h2, fun i v hv hi => ?_⟩
      obtain ⟨d, hd, rd⟩ := h2.get' hv
      have gl : Goal X.K X.mg .rep W σ F1 H1 (.ok (D.prI (D.minP q ps))) Q := gl
      refine gl v F1 H1 (.refl ex.fh) ?_
      rw [List.getElem?_map, hi] at hd
      cases hd
      exact rd
    · exact gl.elim
  · exact gl.elim
end
end RT

namespace RT
open PySem PySem.Spec PyProof.Rows L2
/-! ### [e for .. in .. for .. in ..] -/
section
variable {K : PySem.W.Frag} {mg : Str → Option Value} {ρ : Env} {F H F' H' : Hp} {σ : L2.St}
theorem SR.re (s : SR K mg [] ρ F σ H) (f : Same F F') (h : Same F' H') : SR K mg [] ρ F' σ H' :=
  ⟨h, fun i d e m => let ⟨v, h1, h2⟩ := s.dat i d e m; ⟨v, h1, Rep.mono f _ _ h2⟩, fun i d e m => (nomatch m), fun i j d e a b x m => (nomatch m), s.len⟩
end
theorem compL2_err {g : GF} {src : AF} {vs1 : List Nat} {g1 : GF} {e : EF} {ρ : Env} {c : Str} : ∀ xs : List D, compL2 g src vs1 g1 e ρ xs ≠ .err c
  | [], h => by cases h
  | x :: xs, h => by
    unfold compL2 at h
    split at h
    · cases h
    · split at h
      · split at h
        · split at h <;> cases h
        · cases h
      · cases h
theorem compL_cons {g : GF} {e : EF} {ρ : Env} {x : D} {xs part : List D} (h : compL g tYesF e ρ (x :: xs) = .ok part) : ∃ ρ1 y part', g x ρ = some ρ1 ∧ e ρ1 = .ok y ∧ compL g tYesF e ρ xs = .ok part' ∧ part = y :: part' := by
  unfold compL at h
  cases hg : g x ρ with
  | none => rw [hg] at h; cases h
  | some ρ1 =>
    rw [hg] at h
    have ht : tYesF ρ1 = .ok true := rfl
    simp only [ht] at h
    cases he : e ρ1 with
    | err c => rw [he] at h; cases h
    | stuck => rw [he] at h; cases h
    | ok y =>
      rw [he] at h
      simp only at h
      cases hr : compL g tYesF e ρ xs with
      | err c => rw [hr] at h; cases h
      | stuck => rw [hr] at h; cases h
      | ok part' =>
        rw [hr] at h
        have h' : R.ok (y :: part') = R.ok part := h
        cases h'
        exact ⟨ρ1, y, part', rfl, he, rfl, rfl⟩
theorem compL2_cons {g : GF} {src : AF} {vs1 : List Nat} {g1 : GF} {e : EF} {ρ : Env} {x : D} {xs rest : List D} (h : compL2 g src vs1 g1 e ρ (x :: xs) = .ok rest) :
    ∃ ρ1 xs1 part rest', g x ρ = some ρ1 ∧ src ρ1 = .ok xs1 ∧ compL g1 tYesF e (wipeE ρ1 vs1) xs1 = .ok part ∧ compL2 g src vs1 g1 e ρ xs = .ok rest' ∧ rest = part ++ rest' := by
  unfold compL2 at h
  cases hg : g x ρ with
  | none => rw [hg] at h; cases h
  | some ρ1 =>
    rw [hg] at h
    simp only at h
    cases hs : src ρ1 with
    | err c => rw [hs] at h; cases h
    | stuck => rw [hs] at h; cases h
    | ok xs1 =>
      rw [hs] at h
      simp only at h
      cases hc : compL g1 tYesF e (wipeE ρ1 vs1) xs1 with
      | err c => rw [hc] at h; cases h
      | stuck => rw [hc] at h; cases h
      | ok part =>
        rw [hc] at h
        simp only at h
        cases hr : compL2 g src vs1 g1 e ρ xs with
        | err c => rw [hr] at h; cases h
        | stuck => rw [hr] at h; cases h
        | ok rest' =>
          rw [hr] at h
          have h' : R.ok (part ++ rest') = R.ok rest := h
          cases h'
          exact ⟨ρ1, xs1, part, rest', rfl, hs, hc, rfl, rfl⟩
theorem lc2_tail {K : PySem.W.Frag} {mg : Str → Option Value} {ts ts1 vs vs1 : List Nat} {W : WX} {xs : List D} {g g1 : GF} {src1 : AF} {e : EF} {ρ : Env} {F F1 H1 : Hp} {σ : L2.St} {H : Hp} {Q : VK} {J : It} {p0 : Addr} (hts : ∀ j, j ∈ ts → j ∈ vs) (hts1 : ∀ j, j ∈ ts1 → j ∈ vs1) (s : SR K mg [] ρ F σ H) (e1 : Ext F H F1 H1) (it : ItD K mg J F1 xs) (hD : H1 p0 = none)
    (q : Goal K mg .fresh W σ F H ((compL2 g src1 vs1 g1 e (wipeE ρ vs) xs).bind fun ys => if ys.length ≤ lim then .ok (.lst ys) else .stuck) Q) :
    ∃ W : Nat → Nat → Hp → Prop, (∃ m, W 0 m (upd H1 p0 (.lst []))) ∧ ∀ i m H, W i m H →
      (J.stop i H ∧ Q (.ref p0) H) ∨ (J.go i H ∧ ∃ Nx : Hp → Prop, (∀ H', Nx H' → ∃ m', m' < m ∧ W (i + 1) m' H') ∧ ∀ x H', J.yld i H x H' → tGD K mg [] ts g x (L2.wipe σ vs) H' fun σ2 H2 => L2.wipe σ2 vs = L2.wipe σ vs ∧ tT K mg [] WF tYesF σ2 H2 fun b H3 =>
        if b = true then iD K mg [] WF src1 σ2 H3 fun J1 H4 => ∃ W1 : Nat → Nat → Hp → Prop, (∃ m, W1 0 m H4) ∧ ∀ j k H, W1 j k H →
          (J1.stop j H ∧ Nx H) ∨ (J1.go j H ∧ ∃ Nx1 : Hp → Prop, (∀ H', Nx1 H' → ∃ k', k' < k ∧ W1 (j + 1) k' H') ∧ ∀ x H', J1.yld j H x H' → tGD K mg [] ts1 g1 x (L2.wipe σ2 vs1) H' fun σ3 H5 => L2.wipe σ3 vs1 = L2.wipe σ2 vs1 ∧ tT K mg [] WF tYesF σ3 H5 fun b H6 =>
            if b = true then tD K mg .rep [] WF e σ3 H6 fun y H7 => ∃ acc, H7 p0 = some (.lst acc) ∧ acc.length < sizeLine ∧ Nx1 (upd H7 p0 (.lst (acc ++ [y]))) else Nx1 H6)
        else Nx H3) := by
  cases hc : compL2 g src1 vs1 g1 e (wipeE ρ vs) xs with
  | err c => exact absurd hc (compL2_err xs)
  | stuck => rw [hc] at q; exact q.elim
  | ok ys =>
    rw [hc] at q
    simp only [R.bind_ok] at q
    by_cases hlim : ys.length ≤ lim
    case neg => rw [if_neg hlim] at q; exact q.elim
    rw [if_pos hlim] at q
    have hlim2 : ys.length ≤ sizeLine := hlim
    have q1 := Goal.ext q e1
    have hFD : F1 p0 = none := e1.fh.free hD
    refine ⟨fun i m H' => i ≤ xs.length ∧ m = xs.length - i ∧ ∃ F' acc dacc rest, Ext F1 H1 F' H' ∧ H' p0 = some (.lst acc) ∧ F' p0 = none ∧ RepL K mg F' dacc acc ∧ compL2 g src1 vs1 g1 e (wipeE ρ vs) (xs.drop i) = .ok rest ∧ ys = dacc ++ rest,
      ⟨xs.length, Nat.zero_le _, rfl, F1, [], [], ys, (Ext.refl e1.fh).put hD hFD, upd_same, hFD, by simp [RepL], by simpa using hc, rfl⟩, fun i m H' hW => ?_⟩
    obtain ⟨hi, rfl, F2, acc, dacc, rest, e2, hl, hf, rl, hr, hys⟩ := hW
    by_cases hlt : i < xs.length
    · refine .inr ?_
      have hx : xs[i]? = some xs[i] := List.getElem?_eq_getElem hlt
      obtain ⟨go, yl⟩ := (it.2 i F2 H' e2.ff e2.fh).1 _ hx
      have ed : xs.drop i = xs[i] :: xs.drop (i + 1) := List.drop_eq_getElem_cons hlt
      rw [ed] at hr
      obtain ⟨ρ1, xs1, part, rest', hg, hsrc, hpart, hrest, hrr⟩ := compL2_cons hr
      refine ⟨go, fun H3 => i + 1 ≤ xs.length ∧ ∃ F' acc dacc rest, Ext F1 H1 F' H3 ∧ H3 p0 = some (.lst acc) ∧ F' p0 = none ∧ RepL K mg F' dacc acc ∧ compL2 g src1 vs1 g1 e (wipeE ρ vs) (xs.drop (i + 1)) = .ok rest ∧ ys = dacc ++ rest,
        fun H3 h => ⟨xs.length - (i + 1), by omega, h.1, rfl, h.2⟩, fun x H3 hy => ?_⟩
      obtain ⟨F3, e3, rx⟩ := yl x H3 hy
      have s3 : SR K mg [] (wipeE ρ vs) F3 (L2.wipe σ vs) H3 := (((s.ext e1).ext e2).ext e3).wipe vs
      refine ⟨wipeE ρ vs, F3, xs[i], s3, rx, ?_⟩
      rw [hg]
      intro σ' bt s4
      refine ⟨?_, ρ1, F3, s4, ?_⟩
      · have h1 : L2.wipe σ' vs = L2.wipe (L2.wipe σ vs) vs := wipe_get ⟨bt.1, fun j hj => bt.2 j fun hm => hj (hts j hm)⟩
        rw [h1]
        exact wipe_get ⟨L2.wipe_length σ vs, fun j hj => L2.wipe_out hj⟩
      · intro F5 H5 e5
        rw [if_pos rfl]
        have hH5 : H5 p0 = some (.lst acc) := e5.hh _ _ (e3.hh _ _ hl)
        have hF5 : F5 p0 = none := by
          rw [e5.nw p0 (by rw [e3.hh _ _ hl]; simp), e3.nw p0 (by rw [hl]; simp)]; exact hf
        refine ⟨ρ1, F5, s4.ext e5, ?_⟩
        rw [hsrc]
        intro J1 F6 H6 e6 it1
        have hH6 : H6 p0 = some (.lst acc) := e6.hh _ _ hH5
        have hF6 : F6 p0 = none := by rw [e6.nw p0 (by rw [hH5]; simp)]; exact hF5
        have s6 : SR K mg [] ρ1 F6 σ' H6 := (s4.ext e5).ext e6
        refine ⟨fun j k H' => j ≤ xs1.length ∧ k = xs1.length - j ∧ ∃ F' acc dacc part, Ext F1 H1 F' H' ∧ Same F6 F' ∧ H' p0 = some (.lst acc) ∧ F' p0 = none ∧ RepL K mg F' dacc acc ∧ compL g1 tYesF e (wipeE ρ1 vs1) (xs1.drop j) = .ok part ∧ ys = dacc ++ (part ++ rest'),
          ⟨xs1.length, Nat.zero_le _, rfl, F6, acc, dacc, part, ((e2.trans e3).trans e5).trans e6, .refl _, hH6, hF6, RepL.mono ((e3.ff.trans e5.ff).trans e6.ff) _ _ rl, by simpa using hpart, by rw [hys, hrr]⟩, fun j k H7 hW1 => ?_⟩
        obtain ⟨hj, rfl, F7, acc7, dacc7, part7, e7, f7, hl7, hf7, rl7, hp7, hy7⟩ := hW1
        by_cases hjl : j < xs1.length
        · refine .inr ?_
          have hx1 : xs1[j]? = some xs1[j] := List.getElem?_eq_getElem hjl
          obtain ⟨go1, yl1⟩ := (it1.2 j F7 H7 f7 e7.fh).1 _ hx1
          have ed1 : xs1.drop j = xs1[j] :: xs1.drop (j + 1) := List.drop_eq_getElem_cons hjl
          rw [ed1] at hp7
          obtain ⟨ρ2, dy, part8, hg1, he8, hp8, hpp⟩ := compL_cons hp7
          refine ⟨go1, fun H8 => j + 1 ≤ xs1.length ∧ ∃ F' acc dacc part, Ext F1 H1 F' H8 ∧ Same F6 F' ∧ H8 p0 = some (.lst acc) ∧ F' p0 = none ∧ RepL K mg F' dacc acc ∧ compL g1 tYesF e (wipeE ρ1 vs1) (xs1.drop (j + 1)) = .ok part ∧ ys = dacc ++ (part ++ rest'),
            fun H8 h => ⟨xs1.length - (j + 1), by omega, h.1, rfl, h.2⟩, fun x1 H8 hy1 => ?_⟩
          obtain ⟨F8, e8, rx1⟩ := yl1 x1 H8 hy1
          have s8 : SR K mg [] (wipeE ρ1 vs1) F8 (L2.wipe σ' vs1) H8 := (s6.re (f7.trans e8.ff) e8.fh).wipe vs1
          refine ⟨wipeE ρ1 vs1, F8, xs1[j], s8, rx1, ?_⟩
          rw [hg1]
          intro σ9 bt9 s9
          refine ⟨?_, ρ2, F8, s9, ?_⟩
          · have h1 : L2.wipe σ9 vs1 = L2.wipe (L2.wipe σ' vs1) vs1 := wipe_get ⟨bt9.1, fun j hj => bt9.2 j fun hm => hj (hts1 j hm)⟩
            rw [h1]
            exact wipe_get ⟨L2.wipe_length σ' vs1, fun j hj => L2.wipe_out hj⟩
          · intro F9 H9 e9
            rw [if_pos rfl]
            refine ⟨ρ2, F9, s9.ext e9, ?_⟩
            rw [he8]
            intro y F10 H10 e10 ry
            have ry' : Rep K mg F10 dy y := ry
            have hl10 := e10.hh _ _ (e9.hh _ _ (e8.hh _ _ hl7))
            have hf10 : F10 p0 = none := by
              rw [e10.nw p0 (by rw [e9.hh _ _ (e8.hh _ _ hl7)]; simp), e9.nw p0 (by rw [e8.hh _ _ hl7]; simp), e8.nw p0 (by rw [hl7]; simp)]; exact hf7
            have ff := (e8.ff.trans e9.ff).trans e10.ff
            refine ⟨acc7, hl10, ?_, hjl, F10, acc7 ++ [y], dacc7 ++ [dy], part8, (((e7.trans e8).trans e9).trans e10).put hD hf10, f7.trans ff, upd_same, hf10, (RepL.mono ff _ _ rl7).append (RepL.one ry'), hp8, by rw [hy7, hpp]; simp⟩
            have : ys.length = dacc7.length + (part7.length + rest'.length) := by rw [hy7]; simp
            rw [rl7.len]
            rw [hpp, List.length_cons] at this
            omega
        · have ej : j = xs1.length := by omega
          refine .inl ⟨(it1.2 j F7 H7 f7 e7.fh).2 ej, hlt, F7, acc7, dacc7, rest', e7, hl7, hf7, rl7, hrest, ?_⟩
          rw [ej, List.drop_length] at hp7
          have hp7' : (R.ok [] : R (List D)) = R.ok part7 := hp7
          cases hp7'
          rw [hy7, List.nil_append]
    · have ei : i = xs.length := by omega
      refine .inl ⟨(it.2 i F2 H' e2.ff e2.fh).2 ei, ?_⟩
      rw [ei, List.drop_length] at hr
      have hr' : (R.ok [] : R (List D)) = R.ok rest := hr
      cases hr'
      rw [List.append_nil] at hys
      subst hys
      exact q1 (.ref p0) F2 H' e2 (freshLst hl hf rl hlim2 hD)
theorem tLc2_of {K : PySem.W.Frag} {mg : Str → Option Value} {ts ts1 vs vs1 : List Nat} {W : WX} {src src1 : AF} {g g1 : GF} {e : EF} {σ : L2.St} {H : Hp} {Q : VK} (hts : ∀ j, j ∈ ts → j ∈ vs) (hts1 : ∀ j, j ∈ ts1 → j ∈ vs1)
    (q : tD K mg .fresh [] W (eComp2 src vs g src1 vs1 g1 e) σ H Q) : tLc2 (iD K mg [] W src) (tGD K mg [] ts g) (tT K mg [] WF tYesF) (iD K mg [] WF src1) (tGD K mg [] ts1 g1) (tT K mg [] WF tYesF) (tD K mg .rep [] WF e) vs vs1 σ H Q := by
  obtain ⟨ρ, F, s, q⟩ := q
  refine ⟨ρ, F, s, ?_⟩
  unfold eComp2 at q
  cases hs : src ρ with
  | err c => rw [hs] at q; exact q
  | stuck => rw [hs] at q; exact q.elim
  | ok xs =>
    rw [hs] at q
    simp only [R.bind_ok] at q
    exact fun J F1 H1 e1 it p0 hD => lc2_tail hts hts1 s e1 it hD q
section
variable {X : Cx} {ts ts1 : List Nat} {W : WX} {src src1 : AF} {g g1 : GF} {e : EF} {elt tg iter tg1 iter1 : Expr} {scope : Scope} {own : List (Str × Nat)} {vs1 : List Nat} {pos : Pos}
theorem pd_lc2 (hc : X.calm = true) (hN : X.N.Nodup) (hi : PID X [] W tg src iter) (ok : BlkOk X.N X.env.scope scope own) (hv : ∀ i ∈ vs1, i ∈ own.map (·.2))
    (hg : ∀ (s : Shared) (H : Hp) (C : Addr) (cl : List (Str × Addr)) (fp : List Addr), PGD (X.blk s H scope (compEnvC scope cl C X.env) fp) [] ts g tg)
    (hi1 : ∀ (s : Shared) (H : Hp) (C : Addr) (cl : List (Str × Addr)) (fp : List Addr), PID (X.blk s H scope (compEnvC scope cl C X.env) fp) [] WF tg1 src1 iter1)
    (hg1 : ∀ (s : Shared) (H : Hp) (C : Addr) (cl : List (Str × Addr)) (fp : List Addr), PGD (X.blk s H scope (compEnvC scope cl C X.env) fp) [] ts1 g1 tg1)
    (he : ∀ (s : Shared) (H : Hp) (C : Addr) (cl : List (Str × Addr)) (fp : List Addr), PD (X.blk s H scope (compEnvC scope cl C X.env) fp) .rep [] WF e elt)
    (hts : ∀ j, j ∈ ts → j ∈ own.map (·.2)) (hts1 : ∀ j, j ∈ ts1 → j ∈ vs1) (hs : ∀ x, foldedSetIterable iter X.env x = pure x := by intro _; rfl) (hs1 : ∀ env x, foldedSetIterable iter1 env x = pure x := by intro _ _; rfl) :
    PD X .fresh [] W (eComp2 src (own.map (·.2)) g src1 vs1 g1 e) (.ListComp elt [⟨tg, iter, [], 0⟩, ⟨tg1, iter1, [], 0⟩] scope pos) :=
  PE.imp (pe_lc2 hc hN hi ok hv hg (fun _ _ _ _ _ => ptsd_nil) hi1 hg1 (fun _ _ _ _ _ => ptsd_nil) he hs hs1) fun σ H Q q => tLc2_of hts hts1 q
theorem psd_setLc2 {i : Nat} {y : Str} {py : Pos} {spos : Pos} (hc : X.calm = true) (hN : X.N.Nodup) (hy : X.N[i]? = some y) (hyl : X.env.scope.names.lookup y = some .local)
    (hsw : swapsWith (.ListComp elt [⟨tg, iter, [], 0⟩, ⟨tg1, iter1, [], 0⟩] scope pos) (some (.Name y py)) spos.line X.env = pure true) (hi : PID X [] W tg src iter) (ok : BlkOk X.N X.env.scope scope own) (hv : ∀ i ∈ vs1, i ∈ own.map (·.2))
    (hg : ∀ (s : Shared) (H : Hp) (C : Addr) (cl : List (Str × Addr)) (fp : List Addr), PGD (X.blk s H scope (compEnvC scope cl C X.env) fp) [] ts g tg)
    (hi1 : ∀ (s : Shared) (H : Hp) (C : Addr) (cl : List (Str × Addr)) (fp : List Addr), PID (X.blk s H scope (compEnvC scope cl C X.env) fp) [] WF tg1 src1 iter1)
    (hg1 : ∀ (s : Shared) (H : Hp) (C : Addr) (cl : List (Str × Addr)) (fp : List Addr), PGD (X.blk s H scope (compEnvC scope cl C X.env) fp) [] ts1 g1 tg1)
    (he : ∀ (s : Shared) (H : Hp) (C : Addr) (cl : List (Str × Addr)) (fp : List Addr), PD (X.blk s H scope (compEnvC scope cl C X.env) fp) .rep [] WF e elt)
    (hts : ∀ j, j ∈ ts → j ∈ own.map (·.2)) (hts1 : ∀ j, j ∈ ts1 → j ∈ vs1) (hs : ∀ x, foldedSetIterable iter X.env x = pure x := by intro _; rfl) (hs1 : ∀ env x, foldedSetIterable iter1 env x = pure x := by intro _ _; rfl) :
    PSD X [] [] W (sSet i (eComp2 src (own.map (·.2)) g src1 vs1 g1 e)) (.Assign [.Name y py] (.ListComp elt [⟨tg, iter, [], 0⟩, ⟨tg1, iter1, [], 0⟩] scope pos) spos) := fun B =>
  PS.imp (ps_setLc2 hc hN hy hyl hsw hi ok hv hg (fun _ _ _ _ _ => ptsd_nil) hi1 hg1 (fun _ _ _ _ _ => ptsd_nil) he hs hs1) fun E σ H ⟨ρ, F, sb, q⟩ => tLc2_of hts hts1 ⟨ρ, F, sb.sr, Goal.frz (GoalS.val sb q fun d v F1 H1 _ e1 r q => q _ F1 H1 ((sb.extend e1).store rfl r))⟩
end
end RT

namespace RT
namespace D
/-- tuple * n, n from 1 on -/
def mulT : D → D → R D
  | .tup xs, .int k => if k = 1 then .ok (.tup xs) else if !xs.isEmpty && decide (2 ≤ k) && decide (k ≤ 1000) && decide (xs.length ≤ 1000) then .ok (.tup (List.replicate k.toNat xs).flatten) else .stuck
  | _, _ => .stuck
/-- t in ts: tuples of whole numbers -/
def rowsOf : List D → Option (List (List Int))
  | [] => some []
  | .tup xs :: r => match intsOf xs, rowsOf r with
    | some l, some ls => some (l :: ls)
    | _, _ => none
  | _ :: _ => none
def inT : D → D → R D
  | .tup xs, .lst ys => match intsOf xs, rowsOf ys with
    | some l, some ls => .ok (.bl (ls.contains l))
    | _, _ => .stuck
  | _, _ => .stuck
/-- min of a tuple of whole numbers -/
def bMinT : List D → R D
  | [.tup xs] => match intsOf xs with
    | some (n :: ns) => .ok (.int (ns.foldl min n))
    | _ => .stuck
  | _ => .stuck
end D
end RT

namespace RT
open PySem PySem.Spec PyProof.Rows L2
/-! ### tuple * n, n from 1 on -/
theorem tuple_mul1 (l : Addr) (items : Array Value) (n : Nat) (dd : Option Addr) (sl : Array (Option Value)) (u : Tok) :
    Meets (Builtin.«tuple.__mul__» ⟨[.ref l, .int 1 u], []⟩) (fun _ R s => s.heap.get? l = some { cls := .type "tuple", dict := dd, data := .seq items n, slots := sl } ∧ R (.ok (.ret (Value.ref l))) s) :=
  .of_wp fun prog w A R s h => by
    obtain ⟨hp, g, d, tk, os⟩ := s
    obtain ⟨hl, h⟩ := h
    have f1 := AutoSeq1.idx_int
    wp_walk using wpAny_loadPart' hl
    exact ⟨_, rfl, h⟩
def rRep1 (K : PySem.W.Frag) : R2 := fun x y H Q => ∃ l xs, x = .ref l ∧ y = .int 1 ∧ SqT K H l xs ∧ Q (.ref l) H
theorem op_rep1 {X : Cx} : OpR X (binaryOp .Mult) (rRep1 X.K) := by
  intro pins s σ H x y v u Q I rx ry h
  obtain ⟨l, xs, rfl, rfl, hT, q⟩ := h
  cases rx
  obtain ⟨t, rfl⟩ := ry
  obtain ⟨its, r, ⟨⟨cls, dd, data, sl⟩, ho, hc, n, hd⟩, hs⟩ := I.tuple hT
  simp only at hc hd
  subst hc hd
  refine wpAny_binaryOp_repeat_ref (T := "tuple") (U := "int") (by decide) ⟨_, ho, rfl⟩ (fun s' => typeIs_int s' 1 t) noFill_tuple_mul F.fills_int_mul F.slot_int_rmul repeat_tuple F.slot_int_index.lookup
    (call_meets F.slot_int_rmul (typeIs_int s 1 t) F.entry_int_rmul (F.args_int_rmul_2 _ _) (int_rmul_tuple 1 t l its.toArray n dd sl)
      ⟨ho, rfl, ⟨_, ho, rfl⟩, call_meets F.slot_tuple_mul ⟨_, ho, rfl⟩ F.entry_tuple_mul (F.args_tuple_mul_2 _ _) (tuple_mul1 l its.toArray n dd sl t) ⟨ho, ?_⟩⟩)
  exact ⟨.ref l, H, I, rfl, q⟩
def rMulT (K : PySem.W.Frag) : R2 := fun x y H Q => rRepT K x y H Q ∨ rRep1 K x y H Q
theorem op_mulT {X : Cx} : OpR X (binaryOp .Mult) (rMulT X.K) := op_repT.or op_rep1
theorem ok_mulT {K : PySem.W.Frag} {mg : Str → Option Value} : Ok2 K mg (rMulT K) D.mulT := by
  intro W σ F H dx dy x y Q s hx hy q
  unfold D.mulT at q
  split at q
  · rename_i xs k
    split at q
    · rename_i hk
      subst hk
      obtain ⟨a, vs, rfl, ha, ra, hl⟩ := hx.tup s
      have e : (List.replicate (1 : Int).toNat xs).flatten = xs := by simp
      exact .inr ⟨a, vs, rfl, Look.int hy, SqT.of ha, q.done s (by rw [e] at *; exact hx)⟩
    · split at q
      · rename_i hz
        simp only [Bool.and_eq_true, decide_eq_true_eq, Bool.not_eq_true', List.isEmpty_eq_false_iff] at hz
        obtain ⟨⟨⟨h1, h2⟩, h3⟩, h4⟩ := hz
        obtain ⟨a, vs, rfl, ha, ra, _⟩ := hx.tup s
        refine .inl ⟨a, k, vs, rfl, Look.int hy, SqT.of ha, fun e => h1 (List.eq_nil_of_length_eq_zero (by rw [← ra.len, e]; rfl)), h2, h3, by rw [ra.len]; exact h4, ?_⟩
        refine gTup s (ra.rep k.toNat) ?_ q
        rw [rep_len, sizeLine_eq]
        have h5 : k.toNat ≤ 1000 := by omega
        exact Nat.le_trans (Nat.mul_le_mul h4 h5) (by decide)
      · exact q.elim
  · exact q.elim
def rMinT (K : PySem.W.Frag) : List V → Hp → VK → Prop := fun vs H Q => ∃ (a : Addr) (n : Int) (ns : List Int), vs = [V.ref a] ∧ SqT K H a ((n :: ns).map V.int) ∧ Q (.int (ns.foldl min n)) H
theorem cr_minT {X : Cx} (hc : X.calm = true) (hu : X.A.units + 64 < cLine) : CallR X (.builtin "min") (rMinT X.K) := by
  intro pins s σ H vs us Q I r h
  obtain ⟨a, n, ns, rfl, hs, q⟩ := h
  obtain ⟨its, rv, hl, hz⟩ := I.tuple hs
  rw [Vals.ref1 r]
  obtain ⟨as, hr⟩ := Dp.readsAll I _ _ _ (dp_ints (n :: ns)) rv
  have hr : ReadsAll s.heap its.toArray.toList (.int n :: ns.map .int) as := by simpa using hr
  have hd : PyData.depthAll ((n :: ns).map PyData.int) = 0 := PySem.W.depth_ints _
  refine PySem.W.min_tuple_data (I.ok.hd hc) hl hr ⟨fun x hx y hy => ?_, fun x hx => ?_⟩ ?_ fun i v h' tk bs hv rd hk => ?_
  · rw [← List.map_cons] at hx hy
    obtain ⟨p1, _, rfl⟩ := List.mem_map.mp hx
    obtain ⟨p2, _, rfl⟩ := List.mem_map.mp hy
    simp [PySem.W.alike]
  · rw [← List.map_cons] at hx
    obtain ⟨p1, _, rfl⟩ := List.mem_map.mp hx
    exact fun e => nomatch e
  · rw [List.map_cons] at hd
    omega
  · rw [PySem.W.minD_ints] at rd
    have hv : ∃ t, v = Value.int (ns.foldl min n) t := by
      cases rd
      exact ⟨_, rfl⟩
    exact ⟨.int (ns.foldl min n), H, I.kept (t' := tk) hk, hv, q⟩
theorem ok_minT {K : PySem.W.Frag} {mg : Str → Option Value} : OkC K mg (rMinT K) D.bMinT := by
  intro W σ F H ds vs Q s l q
  unfold D.bMinT at q
  split at q
  · rename_i xs
    split at q
    · rename_i n ns e
      have ex := intsOf_of e
      subst ex
      obtain ⟨v, rfl, k⟩ := l.one
      obtain ⟨a, us, rfl, h1, h2, _⟩ := k.tup s
      have := repL_ints h2
      subst this
      exact ⟨a, n, ns, rfl, SqT.of h1, gInt s q⟩
    · exact q.elim
  · exact q.elim
end RT

namespace RT
open PySem PySem.Spec PyProof.Rows L2
section
variable {X : Cx} {O : List Nat} {W : WX} {f g : EF} {a b : Expr} {pos : Pos}
/-- x, y = (a new list, e), the names captured or not -/
theorem psd_parC {i j : Nat} {x y : Str} {px py pt : Pos} {kt k2 pt2} (hOi : O.contains i = false) (hOj : (stoO true i O).contains j = false) (hc : X.calm = true) (hN : X.N.Nodup) (hi : X.N[i]? = some x) (hj : X.N[j]? = some y) (hij : i ≠ j)
    (hx : Loc X.env.scope x) (hfx : X.fn x = true ∨ X.env.scope.names.lookup x = some .local) (hy : Loc X.env.scope y) (hfy : X.fn y = true ∨ X.env.scope.names.lookup y = some .local) (ha : PD X .fresh O W f a) (hb : PD X .rep O W g b)
    (hw : swappedStores [.Tuple [.Name x px, .Name y py] kt pt] (.Tuple [a, b] k2 pt2) X.env = pure none := by rfl)
    (hs : swapsWithSole [.Tuple [.Name x px, .Name y py] kt pt] (.Tuple [a, b] k2 pt2) pos.line X.env = pure false := by rfl)
    (st : starEach [a, b] X.env = (false, eval a X.env) :: starEach [b] X.env := by rfl) (st2 : starEach [b] X.env = (false, eval b X.env) :: starEach [] X.env := by rfl)
    (h1 : (assignEach [.Tuple [.Name x px, .Name y py] kt pt] X.env).map (·.2) = [assign (.Tuple [.Name x px, .Name y py] kt pt) X.env] := by rfl)
    (h2 : (assignEach [.Name x px, .Name y py] X.env).map (·.2) = assign (.Name x px) X.env :: (assignEach [.Name y py] X.env).map (·.2) := by rfl)
    (h3 : (assignEach [.Name y py] X.env).map (·.2) = assign (.Name y py) X.env :: (assignEach [] X.env).map (·.2) := by rfl)
    (hn : (assignEach [.Name x px, .Name y py] X.env).length = 2 := by rfl) (hst : (assignEach [.Name x px, .Name y py] X.env).findIdx? (·.1) = none := by rfl) :
    PSD X O (stoO false j (stoO true i O)) W (sPar2 true i f false j g) (.Assign [.Tuple [.Name x px, .Name y py] kt pt] (.Tuple [a, b] k2 pt2) pos) := fun B =>
  PS.imp (ps_asg (pe_tup (pa_cons ha (pa_cons hb pa_nil st2) st)) (pg_tup hc (pgs_cons (pg_name hN hi hx hfx) (pgs_cons (pg_name hN hj hy hfy) pgs_nil h3) h2) hn hst) hs hw h1) fun E σ H ⟨ρ, F, sb, q⟩ => ⟨ρ, F, sb.sr, GoalS.val sb q fun d v F1 H1 _ e1 r q => ⟨ρ, F1, (sb.extend e1).sr, GoalS.val (sb.extend e1) q fun d2 w F2 H2 _ e2 r2 q => ⟨by show 2 ≤ sizeLine; decide, fun p hp => by
    have e2' := e2.trans (Ext.newH (o := .tup [v, w]) e2.fh hp)
    have r2' : Val X.K X.mg (mdS false) H1 F2 (upd H2 p (.tup [v, w])) d2 w := r2
    refine ⟨p, [v, w], rfl, SqT.of upd_same, rfl, v, [w], rfl, w, [], rfl, rfl, ?_⟩
    have sb2 := (sb.extend e1).extend e2'
    have v1 := ValS.of (K := X.K) (mg := X.mg) (b := true) (F' := F1) (H' := H1) sb e1 r
    have v2 := ValS.of (K := X.K) (mg := X.mg) (b := false) (F' := F2) (H' := upd H2 p (.tup [v, w])) (sb.extend e1) e2' r2'
    cases es1 : RT.sto true i d ρ with
    | none => rw [es1] at q; exact q.elim
    | some ρ1 =>
      rw [es1] at q
      cases es2 : RT.sto false j d2 ρ1 with
      | none => rw [Option.bind_some, es2] at q; exact q.elim
      | some ρ2 =>
        rw [Option.bind_some, es2] at q
        have v1' := v1.ext (sb.extend e1).sr e2'
        have s3 := sb2.sto hOi v1' es1
        have v3 := ValS.next (F1 := F1) (H1 := H1) hOi v1' es1 v1 e2' v2 (fun hb => (nomatch hb)) sb.sr.len
        exact q _ F2 _ (s3.sto hOj v3 es2)⟩⟩⟩
end
theorem rowsOf_of : ∀ {ds : List D} {ls : List (List Int)}, D.rowsOf ds = some ls → ds = ls.map D.tupI
  | [], ls, h => by cases h; rfl
  | d :: ds, ls, h => by
    unfold D.rowsOf at h
    cases d with
    | tup xs =>
      simp only at h
      split at h
      · rename_i l ls' h1 h2
        cases h
        rw [intsOf_of h1, rowsOf_of h2]; rfl
      · cases h
    | _ => cases h
theorem sh_ints : ∀ (l : List Int) (n : Nat), D.shL (l.map .int) n = true
  | [], n => by simp [D.shL]
  | i :: l, n => by simp [D.shL, D.sh, sh_ints l n]
theorem sh_I (l : List Int) {n : Nat} (h : 0 < n) : D.sh (D.tupI l) n = true := by simp [D.tupI, D.sh, sh_ints, h]
theorem sh_Is {n : Nat} (h : 0 < n) : ∀ ls : List (List Int), D.shL (ls.map D.tupI) n = true
  | [] => by simp [D.shL]
  | l :: ls => by simp [D.shL, sh_I l h, sh_Is h ls]
theorem py_I (l : List Int) : py (D.tupI l) = pyI l := by
  have h : ∀ l : List Int, pyL (l.map D.int) = l.map PyData.int := fun l => by
    induction l with
    | nil => rfl
    | cons i l ih => simp only [List.map_cons, pyL, py, ih]
  simp only [D.tupI, py, h, pyI]
theorem py_Is : ∀ ls : List (List Int), pyL (ls.map D.tupI) = ls.map pyI
  | [] => rfl
  | l :: ls => by simp only [List.map_cons, pyL, py_I, py_Is ls]
theorem eqv_I (z l : List Int) : PyData.eqv (pyI z) (pyI l) = decide (z = l) := by
  have h : ∀ z l : List Int, PyData.eqvAll (z.map PyData.int) (l.map PyData.int) = decide (z = l) := fun z => by
    induction z with
    | nil => intro l; cases l <;> simp [PyData.eqvAll]
    | cons i z ih =>
      intro l
      cases l with
      | nil => simp [PyData.eqvAll]
      | cons j l =>
        simp only [List.map_cons, PyData.eqvAll, ih, PyData.eqv]
        rw [Bool.eq_iff_iff]
        simp
  simp only [pyI, PyData.eqv, h]
theorem ok_inT {K : PySem.W.Frag} {mg : Str → Option Value} : Ok2 K mg (rInD K) D.inT := by
  intro W σ F H dx dy x y Q s hx hy q
  unfold D.inT at q
  split at q
  · rename_i xs ys
    split at q
    · rename_i l ls h1 h2
      have ex := intsOf_of h1
      have ey := rowsOf_of h2
      subst ex ey
      have r1 : Rep K mg F (D.tupI l) x := hx
      have d2 := look_dp (n := 3) s (by simp [D.sh, sh_Is (n := 2) (by decide)]) hy
      have e2 : py (.lst (ls.map D.tupI)) = .list (ls.map pyI) := by simp only [py, py_Is]
      rw [e2] at d2
      refine ⟨pyI l, ls.map pyI, repI_dp s r1, d2, ?_, ?_, ?_⟩
      · rw [← py_I]; exact shaped_of (sh_I l (n := 60) (by decide))
      · rw [← e2]; exact shaped_of (show D.sh (.lst (ls.map D.tupI)) 60 = true by simp [D.sh, sh_Is (n := 59) (by decide)])
      · have e3 : ((ls.map pyI).any fun z => PyData.eqv z (pyI l)) = ls.contains l := by
          rw [List.any_map, Bool.eq_iff_iff, List.any_eq_true, List.contains_iff_mem]
          constructor
          · rintro ⟨z, hz, he⟩
            have he : PyData.eqv (pyI z) (pyI l) = true := he
            rw [eqv_I] at he
            rw [← of_decide_eq_true he]; exact hz
          · intro h
            exact ⟨l, h, by show PyData.eqv (pyI l) (pyI l) = true; rw [eqv_I]; simp⟩
        rw [e3]
        exact gBl s q
    · exact q.elim
  · exact q.elim
theorem Room65 {k : Nat} {A : Around} (r : L2.Room k A) : A.units + 65 < cLine := by have := r.un; omega
end RT

namespace RT
namespace PP
def b__law_drawn_1 : SF := (sSeq (sSet 5 (e2 D.fdiv (eV 5) (eC (.int 1000000))))
  (sSet 4 (e2 D.sub (eV 4) (eC (.int 1)))))
/-- _law_drawn(_law_script, _law_k, _law_many) slots 0 _law_script 1 _law_k 2 _law_many 3 _law_cell 4 _law_turn 5 _law_rest -/
def s__law_drawn : SF := (sSeq (sSet 3 (e2 D.mul (eC (.int 7)) (eV 1)))
  (sSeq (sIf (tV (e2 D.ne (eV 0) (eLst aN)))
    (sSeq (sSet 3 (e2 D.idx (eV 0) (e2 D.mod (eV 1) (eF D.bLen (aC (eV 0) aN)))))
  (sSeq (sSet 4 (e2 D.fdiv (eV 1) (eF D.bLen (aC (eV 0) aN))))
  (sSeq (sIf (tAndF (tV (e2 D.ge (eV 3) (e2 D.pow (eC (.int 10)) (eC (.int 18))))) (tV (e2 D.lt (eV 4) (eC (.int 60)))))
    (sSeq (sSet 5 (e2 D.fdiv (eV 3) (e2 D.pow (eC (.int 10)) (eC (.int 18)))))
  (sSeq (sWhile (tAndF (tV (e2 D.gt (eV 5) (eC (.int 0)))) (tV (e2 D.gt (eV 4) (eC (.int 0)))))
    b__law_drawn_1)
  (sIf (tV (e2 D.gt (eV 5) (eC (.int 0))))
    (sRet (e2 D.mod (e2 D.mod (eV 5) (eC (.int 1000000))) (eV 2)))
    sNx)))
    sNx)
  (sSet 3 (e2 D.add (eV 3) (e2 D.mul (eC (.int 6553)) (e2 D.fdiv (eV 1) (eF D.bLen (aC (eV 0) aN)))))))))
    sNx)
  (sSeq (sSet 3 (e2 D.mod (e2 D.add (e2 D.mul (e2 D.mod (eV 3) (eC (.int 2147483563))) (eC (.int 69069))) (e2 D.mul (eC (.int 104723)) (e2 D.add (eV 1) (eC (.int 1))))) (eC (.int 2147483563))))
  (sSeq (sSet 3 (e2 D.mod (e2 D.add (e2 D.mul (eV 3) (eV 3)) (e2 D.fdiv (eV 3) (eC (.int 3)))) (eC (.int 2147483399))))
  (sRet (e2 D.mod (e2 D.fdiv (e2 D.mod (e2 D.add (e2 D.mul (eV 3) (eV 3)) (e2 D.fdiv (eV 3) (eC (.int 7)))) (eC (.int 2147483647))) (eC (.int 11))) (eV 2)))))))
def d__law_drawn : List D → R D := body 3 s__law_drawn

/-- _law_alarm(_law_script, _law_at) slots 0 _law_script 1 _law_at 2 _law_period -/
def s__law_alarm : SF := (sSeq (sSet 2 (e2 D.idx (eLst (aC (eC (.int 1)) (aC (eC (.int 2)) (aC (eC (.int 3)) (aC (eC (.int 4)) (aC (eC (.int 6)) (aC (eC (.int 8)) (aC (eC (.int 5)) (aC (eC (.int 12)) (aC (eC (.int 10)) (aC (eC (.int 4)) aN))))))))))) (eF d__law_drawn (aC (eV 0) (aC (eV 1) (aC (eC (.int 10)) aN))))))
  (sRet (eTup (aC (eV 2) (aC (eF d__law_drawn (aC (eV 0) (aC (e2 D.add (eV 1) (eC (.int 1))) (aC (eV 2) aN)))) aN)))))
def d__law_alarm : List D → R D := body 1 s__law_alarm

def b__law_pick_1 : SF := (sPar2 false 4 (e2 D.fdiv (eV 4) (eC (.int 840))) false 5 (e2 D.sub (eV 5) (eC (.int 1))))
/-- _law_pick(_law_script, _law_k, _law_many) slots 0 _law_script 1 _law_k 2 _law_many 3 _law_cell 4 _law_rest 5 _law_again 6 _law_drawn -/
def s__law_pick : SF := (sSeq (sSet 3 (eIf (tV (e2 D.ne (eV 0) (eLst aN))) (e2 D.idx (eV 0) (e2 D.mod (eV 1) (eF D.bLen (aC (eV 0) aN)))) (eC (.int 0))))
  (sSeq (sPar2 false 4 (e2 D.fdiv (eV 3) (e2 D.pow (eC (.int 10)) (eC (.int 18)))) false 5 (e2 D.fdiv (eV 1) (eF D.bMax2 (aC (eF D.bLen (aC (eV 0) aN)) (aC (eC (.int 1)) aN)))))
  (sSeq (sWhile (tAndF (tV (e2 D.gt (eV 4) (eC (.int 0)))) (tV (e2 D.gt (eV 5) (eC (.int 0)))))
    b__law_pick_1)
  (sSeq (sIf (tV (e2 D.gt (eV 4) (eC (.int 0))))
    (sRet (e2 D.mod (e2 D.mod (eV 4) (eC (.int 840))) (eV 2)))
    sNx)
  (sSeq (sSet 6 (e2 D.mod (e2 D.mul (e2 D.add (e2 D.mul (eV 3) (eC (.int 31))) (e2 D.mul (eC (.int 6151)) (e2 D.add (eV 1) (eC (.int 1))))) (eC (.int 40692))) (eC (.int 2147483399))))
  (sRet (e2 D.mod (e2 D.mod (e2 D.add (e2 D.mul (eV 6) (eV 6)) (e2 D.fdiv (eV 6) (eC (.int 31)))) (eC (.int 2147483629))) (eV 2))))))))
def d__law_pick : List D → R D := body 4 s__law_pick

/-- _law_alarm(_law_script, _law_place) slots 0 _law_script 1 _law_place 2 _law_period -/
def s__law_alarm_b : SF := (sSeq (sSet 2 (e2 D.idx (eTup (aC (eC (.int 1)) (aC (eC (.int 2)) (aC (eC (.int 3)) (aC (eC (.int 4)) (aC (eC (.int 6)) (aC (eC (.int 6)) (aC (eC (.int 8)) (aC (eC (.int 9)) (aC (eC (.int 10)) (aC (eC (.int 12)) (aC (eC (.int 5)) (aC (eC (.int 7)) aN))))))))))))) (eF d__law_pick (aC (eV 0) (aC (eV 1) (aC (eC (.int 12)) aN))))))
  (sRet (eTup (aC (eV 2) (aC (eF d__law_pick (aC (eV 0) (aC (e2 D.add (eV 1) (eC (.int 1))) (aC (eV 2) aN)))) aN)))))
def d__law_alarm_b : List D → R D := body 1 s__law_alarm_b

/-- _law_badalarm(_law_script, _law_at) slots 0 _law_script 1 _law_at -/
def s__law_badalarm : SF := (sRet (e2 D.idx (eLst (aC (eC .non) (aC (eTup aN) (aC (eTup (aC (eC (.int 4)) (aC (eC (.int 4)) aN))) (aC (eTup (aC (eC (.int 0)) (aC (eC (.int 0)) aN))) (aC (eTup (aC (eC (.int 61)) (aC (eC (.int 0)) aN))) (aC (eTup (aC (eC (.int 4)) (aC (e1 D.neg (eC (.int 1))) aN))) (aC (eTup (aC (eC (.bl true)) (aC (eC (.int 0)) aN))) (aC (eLst (aC (eC (.int 4)) (aC (eC (.int 1)) aN))) (aC (eTup (aC (eC (.int 4)) (aC (eC (.int 1)) (aC (eC (.int 0)) aN)))) aN)))))))))) (eF d__law_drawn (aC (eV 0) (aC (eV 1) (aC (eC (.int 9)) aN))))))
def d__law_badalarm : List D → R D := body 0 s__law_badalarm

/-- _law_badrow(_law_script, _law_at) slots 0 _law_script 1 _law_at 2 _law_bad -/
def s__law_badrow : SF := (sSeq (sSet 2 (eLst (aC (eC .non) (aC (eLst aN) (aC (eLst (aC (eTup (aC (eC (.int 4)) (aC (eC (.int 1)) aN))) aN)) (aC (eTup (aC (eTup (aC (eC (.int 4)) (aC (eC (.int 4)) aN))) aN)) (aC (eTup (aC (eTup (aC (eC (.int 0)) (aC (eC (.int 0)) aN))) aN)) (aC (eTup (aC (eTup (aC (eC (.int 61)) (aC (eC (.int 0)) aN))) aN)) (aC (eTup (aC (eTup (aC (eC (.int 4)) (aC (e1 D.neg (eC (.int 1))) aN))) aN)) (aC (eTup (aC (eTup (aC (eC (.bl true)) (aC (eC (.int 0)) aN))) aN)) aN))))))))))
  (sSeq (sSet 2 (e2 D.add (eV 2) (eLst (aC (eTup (aC (eTup (aC (eC (.int 4)) aN)) aN)) (aC (e2 D.mul (eTup (aC (eTup (aC (eC (.int 4)) (aC (eC (.int 1)) aN))) aN)) (eC (.int 7))) (aC (eTup (aC (eC (.int 4)) (aC (eC (.int 1)) aN))) aN))))))
  (sRet (e2 D.idx (eV 2) (eF d__law_drawn (aC (eV 0) (aC (eV 1) (aC (eC (.int 11)) aN))))))))
def d__law_badrow : List D → R D := body 1 s__law_badrow

/-- _law_count(_law_row_here, _law_time) slots 0 _law_row_here 1 _law_time 2 _law_period 3 _law_shift -/
def s__law_count : SF := (sRet (eF D.bLen (aC (eComp (sItems (eV 0)) [2, 3] (gT (gsC (gN 2) (gsC (gN 3) gs0))) (tV (e2 D.eq (e2 D.mod (eV 1) (eV 2)) (eV 3))) (eC (.int 1))) aN)))
def d__law_count : List D → R D := body 2 s__law_count

def b__law_cycle_1 : SF := (sSet 4 (e2 D.add (eV 4) (eV 1)))
def b__law_cycle_2 : SF := (sSeq (sSet 4 (eV 1))
  (sSeq (sWhile (tV (e2 D.ne (e2 D.mod (eV 4) (eV 2)) (eC (.int 0))))
    b__law_cycle_1)
  (sSet 1 (eV 4))))
/-- _law_cycle(_law_row_here) slots 0 _law_row_here 1 _law_period 2 _law_one 3 _law_shift 4 _law_more -/
def s__law_cycle : SF := (sSeq (sSet 1 (eC (.int 1)))
  (sSeq (sFor (sItems (eV 0)) (gT (gsC (gN 2) (gsC (gN 3) gs0)))
    b__law_cycle_2)
  (sRet (eV 1))))
def d__law_cycle : List D → R D := body 4 s__law_cycle

def b__law_cycle_b_1 : SF := (sPar2 false 4 (eV 5) false 5 (e2 D.mod (eV 4) (eV 5)))
def b__law_cycle_b_2 : SF := (sSeq (sPar2 false 4 (eV 1) false 5 (eV 2))
  (sSeq (sWhile (tV (e2 D.gt (eV 5) (eC (.int 0))))
    b__law_cycle_b_1)
  (sSet 1 (e2 D.mul (e2 D.fdiv (eV 1) (eV 4)) (eV 2)))))
/-- _law_cycle(_law_row_here) slots 0 _law_row_here 1 _law_found 2 _law_period 3 _law_shift 4 _law_one 5 _law_other -/
def s__law_cycle_b : SF := (sSeq (sSet 1 (eC (.int 1)))
  (sSeq (sFor (sItems (eV 0)) (gT (gsC (gN 2) (gsC (gN 3) gs0)))
    b__law_cycle_b_2)
  (sRet (eV 1))))
def d__law_cycle_b : List D → R D := body 5 s__law_cycle_b

/-- _law_heard(_law_row, _law_time) slots 0 _law_row 1 _law_time 2 _law_i -/
def s__law_heard : SF := (sRet (eComp (sA rngA (aC (eF D.bLen (aC (eV 0) aN)) aN)) [2] (gN 2) (tV (e2 D.eq (e2 D.mod (eV 1) (e2 D.idx (e2 D.idx (eV 0) (eV 2)) (eC (.int 0)))) (e2 D.idx (e2 D.idx (eV 0) (eV 2)) (eC (.int 1))))) (eV 2)))
def d__law_heard : List D → R D := body 1 s__law_heard

/-- _law_row(_law_script, _law_at, _law_most) slots 0 _law_script 1 _law_at 2 _law_most 3 _law_k -/
def s__law_row : SF := (sRet (eF D.bTuple (aC (eComp (sA rngA (aC (eF d__law_drawn (aC (eV 0) (aC (eV 1) (aC (e2 D.add (eV 2) (eC (.int 1))) aN)))) aN)) [3] (gN 3) tYesF (eF d__law_alarm (aC (eV 0) (aC (e2 D.add (e2 D.add (eV 1) (eC (.int 1))) (e2 D.mul (eC (.int 2)) (eV 3))) aN)))) aN)))
def d__law_row : List D → R D := body 1 s__law_row

/-- _law_row(_law_script, _law_place, _law_most) slots 0 _law_script 1 _law_place 2 _law_most 3 _law_i -/
def s__law_row_b : SF := (sRet (eF D.bTuple (aC (eComp (sA rngA (aC (eF d__law_pick (aC (eV 0) (aC (eV 1) (aC (e2 D.add (eV 2) (eC (.int 1))) aN)))) aN)) [3] (gN 3) tYesF (eF d__law_alarm_b (aC (eV 0) (aC (e2 D.add (e2 D.add (eV 1) (eC (.int 1))) (e2 D.mul (eC (.int 2)) (eV 3))) aN)))) aN)))
def d__law_row_b : List D → R D := body 1 s__law_row_b

def b__wall_1 : SF := sNx
/-- _wall(k) slots 0 k -/
def s__wall : SF := (sWhile (tV (eC (.bl true)))
    b__wall_1)
def d__wall : List D → R D := body 0 s__wall

def b_divisor_1 : SF := (sPar2 false 0 (eV 1) false 1 (e2 D.mod (eV 0) (eV 1)))
/-- divisor(one, other) slots 0 one 1 other -/
def s_divisor : SF := (sSeq (sWhile (tV (e2 D.gt (eV 1) (eC (.int 0))))
    b_divisor_1)
  (sRet (eV 0)))
def d_divisor : List D → R D := body 0 s_divisor

/-- do_meet(one, other) slots 0 one 1 other -/
def s_do_meet : SF := (sRet (e2 D.eq (e2 D.mod (e2 D.sub (e2 D.idx (eV 0) (eC (.int 1))) (e2 D.idx (eV 1) (eC (.int 1)))) (eF d_divisor (aC (e2 D.idx (eV 0) (eC (.int 0))) (aC (e2 D.idx (eV 1) (eC (.int 0))) aN)))) (eC (.int 0))))
def d_do_meet : List D → R D := body 0 s_do_meet

/-- fits(row, alarm) slots 0 row 1 alarm 2 one -/
def s_fits : SF := (sRet (eNot (eF D.bAny (aC (eComp (sItems (eV 0)) [2] (gN 2) tYesF (eF d_do_meet (aC (eV 2) (aC (eV 1) aN)))) aN))))
def d_fits : List D → R D := body 1 s_fits

def b_all_good_1 : SF := (sSeq (sSet 6 (eF D.bZipT (aC (eV 0) (aC (eV 5) aN))))
  (sExt 4 (eComp (sA rngA (aC (eV 3) aN)) [7] (gN 7) (tV (eF d_fits (aC (eV 6) (aC (eTup (aC (eV 3) (aC (eV 7) aN))) aN)))) (e2 D.add (eV 5) (eTup (aC (eV 7) aN))))))
def b_all_good_2 : SF := (sSeq (sSetO 4 (eLst aN))
  (sSeq (sFor (sItems (eV 1)) (gN 5)
    b_all_good_1)
  (sSet 1 (eV 4))))
/-- all_good(periods) slots 0 periods 1 found 2 number 3 period 4 longer 5 shifts 6 row 7 shift -/
def s_all_good : SF := (sSeq (sSet 1 (eLst (aC (eTup aN) aN)))
  (sSeq (sFor (sA enumA (aC (eV 0) aN)) (gT (gsC (gN 2) (gsC (gN 3) gs0)))
    b_all_good_2)
  (sRet (eV 1))))
def d_all_good : List D → R D := body 7 s_all_good

def b_all_groups_1 : SF := (sSet 1 (e2 D.add (eV 1) (eComp (sItems (eV 1)) [3] (gN 3) tYesF (e2 D.add (eV 3) (eTup (aC (eV 2) aN))))))
/-- all_groups(many) slots 0 many 1 found 2 number 3 group -/
def s_all_groups : SF := (sSeq (sSet 1 (eLst (aC (eTup aN) aN)))
  (sSeq (sFor (sA rngA (aC (eV 0) aN)) (gN 2)
    b_all_groups_1)
  (sRet (eF D.bSorted (aC (eComp (sItems (eV 1)) [3] (gN 3) (tV (e2 D.ne (eV 3) (eTup aN))) (eV 3)) aN)))))
def d_all_groups : List D → R D := body 3 s_all_groups

/-- is_int(value, least, most) slots 0 value 1 least 2 most -/
def s_is_int : SF := (sRet (eAnd (e1 (D.isI .int) (eV 0)) (eAnd (eNot (e1 (D.isI .bool) (eV 0))) (eChain D.le D.le (eV 1) (eV 0) (eV 2)))))
def d_is_int : List D → R D := body 0 s_is_int

/-- is_alarm(candidate) slots 0 candidate -/
def s_is_alarm : SF := (sSeq (sIf (tOrF (tNotF (tV (e1 (D.isI .tuple) (eV 0)))) (tOrF (tV (e2 D.ne (eF D.bLen (aC (eV 0) aN)) (eC (.int 2)))) (tNotF (tV (eF d_is_int (aC (e2 D.idx (eV 0) (eC (.int 0))) (aC (eC (.int 1)) (aC (eC (.int 60)) aN))))))))
    (sRet (eC (.bl false)))
    sNx)
  (sRet (eF d_is_int (aC (e2 D.idx (eV 0) (eC (.int 1))) (aC (eC (.int 0)) (aC (e2 D.sub (e2 D.idx (eV 0) (eC (.int 0))) (eC (.int 1))) aN))))))
def d_is_alarm : List D → R D := body 0 s_is_alarm

/-- is_row(candidate) slots 0 candidate 1 alarm -/
def s_is_row : SF := (sRet (eAnd (e1 (D.isI .tuple) (eV 0)) (eAnd (e2 D.le (eF D.bLen (aC (eV 0) aN)) (eC (.int 6))) (eF D.bAll (aC (eComp (sItems (eV 0)) [1] (gN 1) tYesF (eF d_is_alarm (aC (eV 1) aN))) aN)))))
def d_is_row : List D → R D := body 1 s_is_row

/-- check_row(value) slots 0 value -/
def s_check_row : SF := (sIf (tNotF (tV (eF d_is_row (aC (eV 0) aN))))
    (sRaise "InvalidRow")
    sNx)
def d_check_row : List D → R D := body 0 s_check_row

def b_find_apart_1 : SF := (sIf (tNotF (tV (eF d_do_meet (aC (eV 2) (aC (e2 D.idx (eV 0) (eV 3)) aN)))))
    (sRet (eTup (aC (eV 1) (aC (eV 3) aN))))
    sNx)
def b_find_apart_2 : SF := (sFor (sA rngA (aC (e2 D.add (eV 1) (eC (.int 1))) (aC (eF D.bLen (aC (eV 0) aN)) aN))) (gN 3)
    b_find_apart_1)
/-- find_apart(row) slots 0 row 1 i 2 one 3 j -/
def s_find_apart : SF := (sSeq (sFor (sA enumA (aC (eV 0) aN)) (gT (gsC (gN 1) (gsC (gN 2) gs0)))
    b_find_apart_2)
  (sRet (eC .non)))
def d_find_apart : List D → R D := body 3 s_find_apart

/-- all_meet(row) slots 0 row -/
def s_all_meet : SF := (sSeq (sDrop (eF d_check_row (aC (eV 0) aN)))
  (sRet (eNone (eF d_find_apart (aC (eV 0) aN)))))
def d_all_meet : List D → R D := body 0 s_all_meet

/-- check_number(value, least, most) slots 0 value 1 least 2 most -/
def s_check_number : SF := (sIf (tNotF (tV (eF d_is_int (aC (eV 0) (aC (eV 1) (aC (eV 2) aN))))))
    (sRaise "InvalidNumber")
    sNx)
def d_check_number : List D → R D := body 0 s_check_number

def b_find_cycle_1 : SF := (sSet 1 (e2 D.mul (e2 D.fdiv (eV 1) (eF d_divisor (aC (eV 1) (aC (eV 2) aN)))) (eV 2)))
/-- find_cycle(row) slots 0 row 1 found 2 period 3 shift -/
def s_find_cycle : SF := (sSeq (sSet 1 (eC (.int 1)))
  (sSeq (sFor (sItems (eV 0)) (gT (gsC (gN 2) (gsC (gN 3) gs0)))
    b_find_cycle_1)
  (sRet (eV 1))))
def d_find_cycle : List D → R D := body 3 s_find_cycle

/-- check_cycle(row) slots 0 row -/
def s_check_cycle : SF := (sSeq (sDrop (eF d_check_row (aC (eV 0) aN)))
  (sIf (tV (e2 D.gt (eF d_find_cycle (aC (eV 0) aN)) (eC (.int 5000))))
    (sRaise "TooLarge")
    sNx))
def d_check_cycle : List D → R D := body 0 s_check_cycle

/-- rings_before(alarm, end) slots 0 alarm 1 end -/
def s_rings_before : SF := (sRet (eIf (tV (e2 D.gt (eV 1) (e2 D.idx (eV 0) (eC (.int 1))))) (e2 D.fdiv (e2 D.sub (e2 D.add (e2 D.sub (eV 1) (e2 D.idx (eV 0) (eC (.int 1)))) (e2 D.idx (eV 0) (eC (.int 0)))) (eC (.int 1))) (e2 D.idx (eV 0) (eC (.int 0)))) (eC (.int 0))))
def d_rings_before : List D → R D := body 0 s_rings_before

/-- find_rings(row, start, length) slots 0 row 1 start 2 length 3 alarm -/
def s_find_rings : SF := (sRet (eF D.bSum (aC (eComp (sItems (eV 0)) [3] (gN 3) tYesF (e2 D.sub (eF d_rings_before (aC (eV 3) (aC (e2 D.add (eV 1) (eV 2)) aN))) (eF d_rings_before (aC (eV 3) (aC (eV 1) aN))))) aN)))
def d_find_rings : List D → R D := body 1 s_find_rings

/-- all_windows(row, length) slots 0 row 1 length 2 start -/
def s_all_windows : SF := (sSeq (sDrop (eF d_check_row (aC (eV 0) aN)))
  (sSeq (sDrop (eF d_check_number (aC (eV 1) (aC (eC (.int 1)) (aC (eC (.int 1000)) aN)))))
  (sSeq (sDrop (eF d_check_cycle (aC (eV 0) aN)))
  (sRet (eComp (sA rngA (aC (eF d_find_cycle (aC (eV 0) aN)) aN)) [2] (gN 2) tYesF (eF d_find_rings (aC (eV 0) (aC (eV 2) (aC (eV 1) aN)))))))))
def d_all_windows : List D → R D := body 1 s_all_windows

/-- apart(row) slots 0 row -/
def s_apart : SF := (sSeq (sDrop (eF d_check_row (aC (eV 0) aN)))
  (sRet (eF d_find_apart (aC (eV 0) aN))))
def d_apart : List D → R D := body 0 s_apart

/-- check_periods(value) slots 0 value 1 one -/
def s_check_periods : SF := (sIf (tOrF (tNotF (tV (e1 (D.isI .tuple) (eV 0)))) (tOrF (tV (e2 D.gt (eF D.bLen (aC (eV 0) aN)) (eC (.int 6)))) (tNotF (tV (eF D.bAll (aC (eComp (sItems (eV 0)) [1] (gN 1) tYesF (eF d_is_int (aC (eV 1) (aC (eC (.int 1)) (aC (eC (.int 12)) aN))))) aN))))))
    (sRaise "InvalidPeriods")
    sNx)
def d_check_periods : List D → R D := body 1 s_check_periods

/-- are_good(periods, candidate) slots 0 periods 1 candidate 2 row 3 period 4 shift 5 number 6 alarm -/
def s_are_good : SF := (sSeq (sDrop (eF d_check_periods (aC (eV 0) aN)))
  (sSeq (sIf (tOrF (tNotF (tV (e1 (D.isI .tuple) (eV 1)))) (tV (e2 D.ne (eF D.bLen (aC (eV 1) aN)) (eF D.bLen (aC (eV 0) aN)))))
    (sRet (eC (.bl false)))
    sNx)
  (sSeq (sIf (tNotF (tV (eF D.bAll (aC (eComp (sA zipA (aC (eV 0) (aC (eV 1) aN))) [3, 4] (gT (gsC (gN 3) (gsC (gN 4) gs0))) tYesF (eF d_is_int (aC (eV 4) (aC (eC (.int 0)) (aC (e2 D.sub (eV 3) (eC (.int 1))) aN))))) aN))))
    (sRet (eC (.bl false)))
    sNx)
  (sSeq (sSet 2 (eF D.bZipT (aC (eV 0) (aC (eV 1) aN))))
  (sRet (eF D.bAll (aC (eComp (sA enumA (aC (eV 2) aN)) [5, 6] (gT (gsC (gN 5) (gsC (gN 6) gs0))) tYesF (eF d_fits (aC (eCut (eV 2) oN (oS (eV 5))) (aC (eV 6) aN)))) aN)))))))
def d_are_good : List D → R D := body 5 s_are_good

/-- are_shifts(periods, value) slots 0 periods 1 value 2 shift 3 period -/
def s_are_shifts : SF := (sSeq (sIf (tOrF (tNotF (tV (e1 (D.isI .tuple) (eV 1)))) (tV (e2 D.ne (eF D.bLen (aC (eV 1) aN)) (eF D.bLen (aC (eV 0) aN)))))
    (sRet (eC (.bl false)))
    sNx)
  (sRet (eF D.bAll (aC (eComp (sA zipA (aC (eV 1) (aC (eV 0) aN))) [2, 3] (gT (gsC (gN 2) (gsC (gN 3) gs0))) tYesF (eF d_is_int (aC (eV 2) (aC (eC (.int 0)) (aC (e2 D.sub (eV 3) (eC (.int 1))) aN))))) aN))))
def d_are_shifts : List D → R D := body 2 s_are_shifts

def b_both_1 : SF := (sSet 2 (e2 D.add (eV 2) (e2 D.idx (eV 0) (eC (.int 0)))))
/-- both(one, other) slots 0 one 1 other 2 time -/
def s_both : SF := (sSeq (sSet 2 (e2 D.idx (eV 0) (eC (.int 1))))
  (sSeq (sWhile (tV (e2 D.ne (e2 D.mod (eV 2) (e2 D.idx (eV 1) (eC (.int 0)))) (e2 D.idx (eV 1) (eC (.int 1)))))
    b_both_1)
  (sRet (eTup (aC (e2 D.mul (e2 D.fdiv (e2 D.idx (eV 0) (eC (.int 0))) (eF d_divisor (aC (e2 D.idx (eV 0) (eC (.int 0))) (aC (e2 D.idx (eV 1) (eC (.int 0))) aN)))) (e2 D.idx (eV 1) (eC (.int 0)))) (aC (eV 2) aN))))))
def d_both : List D → R D := body 1 s_both

/-- busiest(row, length) slots 0 row 1 length 2 found -/
def s_busiest : SF := (sSeq (sSet 2 (eF d_all_windows (aC (eV 0) (aC (eV 1) aN))))
  (sRet (eMth D.index (eV 2) (eF D.bMax (aC (eV 2) aN)))))
def d_busiest : List D → R D := body 1 s_busiest

/-- check_alarm(value) slots 0 value -/
def s_check_alarm : SF := (sIf (tNotF (tV (eF d_is_alarm (aC (eV 0) aN))))
    (sRaise "InvalidAlarm")
    sNx)
def d_check_alarm : List D → R D := body 0 s_check_alarm

def b_check_product_1 : SF := (sSet 1 (e2 D.mul (eV 1) (eV 2)))
/-- check_product(periods) slots 0 periods 1 found 2 period -/
def s_check_product : SF := (sSeq (sSet 1 (eC (.int 1)))
  (sSeq (sFor (sItems (eV 0)) (gN 2)
    b_check_product_1)
  (sIf (tV (e2 D.gt (eV 1) (eC (.int 20000))))
    (sRaise "TooLarge")
    sNx)))
def d_check_product : List D → R D := body 2 s_check_product

/-- check_both(periods) slots 0 periods -/
def s_check_both : SF := (sSeq (sDrop (eF d_check_periods (aC (eV 0) aN)))
  (sDrop (eF d_check_product (aC (eV 0) aN))))
def d_check_both : List D → R D := body 0 s_check_both

/-- check_short(value) slots 0 value 1 period -/
def s_check_short : SF := (sSeq (sIf (tOrF (tNotF (tV (e1 (D.isI .tuple) (eV 0)))) (tNotF (tV (eChain D.le D.le (eC (.int 1)) (eF D.bLen (aC (eV 0) aN)) (eC (.int 4))))))
    (sRaise "InvalidPeriods")
    sNx)
  (sIf (tNotF (tV (eF D.bAll (aC (eComp (sItems (eV 0)) [1] (gN 1) tYesF (eF d_is_int (aC (eV 1) (aC (eC (.int 1)) (aC (eC (.int 8)) aN))))) aN))))
    (sRaise "InvalidPeriods")
    sNx))
def d_check_short : List D → R D := body 1 s_check_short

def b_check_product_b_1 : SF := (sSet 1 (e2 D.mul (eV 1) (eV 2)))
/-- check_product(periods) slots 0 periods 1 product 2 period -/
def s_check_product_b : SF := (sSeq (sDrop (eF d_check_short (aC (eV 0) aN)))
  (sSeq (sSet 1 (eC (.int 1)))
  (sSeq (sFor (sItems (eV 0)) (gN 2)
    b_check_product_b_1)
  (sIf (tV (e2 D.gt (eV 1) (eC (.int 600))))
    (sRaise "TooLarge")
    sNx))))
def d_check_product_b : List D → R D := body 2 s_check_product_b

/-- check_small(row) slots 0 row 1 period 2 shift -/
def s_check_small : SF := (sSeq (sDrop (eF d_check_row (aC (eV 0) aN)))
  (sSeq (sIf (tV (eF D.bAny (aC (eComp (sItems (eV 0)) [1, 2] (gT (gsC (gN 1) (gsC (gN 2) gs0))) tYesF (e2 D.gt (eV 1) (eC (.int 12)))) aN)))
    (sRaise "TooLarge")
    sNx)
  (sDrop (eF d_check_product (aC (eComp (sItems (eV 0)) [1, 2] (gT (gsC (gN 1) (gsC (gN 2) gs0))) tYesF (eV 1)) aN)))))
def d_check_small : List D → R D := body 2 s_check_small

/-- check_time(value) slots 0 value -/
def s_check_time : SF := (sIf (tOrF (tNotF (tV (e1 (D.isI .int) (eV 0)))) (tOrF (tV (e1 (D.isI .bool) (eV 0))) (tV (e2 D.lt (eV 0) (eC (.int 0))))))
    (sRaise "InvalidTime")
    sNx)
def d_check_time : List D → R D := body 0 s_check_time

/-- check_two(one, other) slots 0 one 1 other -/
def s_check_two : SF := (sSeq (sDrop (eF d_check_alarm (aC (eV 0) aN)))
  (sDrop (eF d_check_alarm (aC (eV 1) aN))))
def d_check_two : List D → R D := body 0 s_check_two

/-- chosen(row, group) slots 0 row 1 group 2 number -/
def s_chosen : SF := (sRet (eF D.bTuple (aC (eComp (sItems (eV 1)) [2] (gN 2) tYesF (e2 D.idx (eV 0) (eV 2))) aN)))
def d_chosen : List D → R D := body 1 s_chosen

/-- count_good(periods) slots 0 periods -/
def s_count_good : SF := (sSeq (sDrop (eF d_check_both (aC (eV 0) aN)))
  (sRet (eF D.bLen (aC (eF d_all_good (aC (eV 0) aN)) aN))))
def d_count_good : List D → R D := body 0 s_count_good

/-- count_rings(row, end) slots 0 row 1 end 2 period 3 shift -/
def s_count_rings : SF := (sSeq (sDrop (eF d_check_row (aC (eV 0) aN)))
  (sSeq (sDrop (eF d_check_time (aC (eV 1) aN)))
  (sRet (eF D.bSum (aC (eComp (sItems (eV 0)) [2, 3] (gT (gsC (gN 2) (gsC (gN 3) gs0))) tYesF (e2 D.fdiv (e2 D.sub (e2 D.add (e2 D.sub (eV 1) (eV 3)) (eV 2)) (eC (.int 1))) (eV 2))) aN)))))
def d_count_rings : List D → R D := body 2 s_count_rings

/-- does_ring(alarm, time) slots 0 alarm 1 time -/
def s_does_ring : SF := (sRet (e2 D.eq (e2 D.mod (eV 1) (e2 D.idx (eV 0) (eC (.int 0)))) (e2 D.idx (eV 0) (eC (.int 1)))))
def d_does_ring : List D → R D := body 0 s_does_ring

/-- find_ringing(row, time) slots 0 row 1 time 2 number 3 alarm -/
def s_find_ringing : SF := (sRet (eComp (sA enumA (aC (eV 0) aN)) [2, 3] (gT (gsC (gN 2) (gsC (gN 3) gs0))) (tV (eF d_does_ring (aC (eV 3) (aC (eV 1) aN)))) (eV 2)))
def d_find_ringing : List D → R D := body 2 s_find_ringing

/-- find_times(row) slots 0 row 1 time -/
def s_find_times : SF := (sRet (eComp (sA rngA (aC (eF d_find_cycle (aC (eV 0) aN)) aN)) [1] (gN 1) (tV (e2 D.ne (eF d_find_ringing (aC (eV 0) (aC (eV 1) aN))) (eLst aN))) (eV 1)))
def d_find_times : List D → R D := body 1 s_find_times

/-- longest_silence(row) slots 0 row 1 found 2 one 3 other -/
def s_longest_silence : SF := (sSeq (sIf (tV (e2 D.eq (eV 0) (eTup aN)))
    (sRaise "EmptyRow")
    sNx)
  (sSeq (sDrop (eF d_check_cycle (aC (eV 0) aN)))
  (sSeq (sSetO 1 (eF d_find_times (aC (eV 0) aN)))
  (sSeq (sApp 1 (e2 D.add (e2 D.idx (eV 1) (eC (.int 0))) (eF d_find_cycle (aC (eV 0) aN))))
  (sRet (eF D.bMax (aC (eComp (sA zipA (aC (eV 1) (aC (eCut (eV 1) (oS (eC (.int 1))) oN) aN))) [2, 3] (gT (gsC (gN 2) (gsC (gN 3) gs0))) tYesF (e2 D.sub (e2 D.sub (eV 3) (eV 2)) (eC (.int 1)))) aN)))))))
def d_longest_silence : List D → R D := body 3 s_longest_silence

/-- silence_of(periods, shifts) slots 0 periods 1 shifts -/
def s_silence_of : SF := (sRet (eF d_longest_silence (aC (eF D.bTuple (aC (eF D.bZipL (aC (eV 0) (aC (eV 1) aN))) aN)) aN)))
def d_silence_of : List D → R D := body 0 s_silence_of

def b_find_best_1 : SF := (sSet 1 (eComp2 (sItems (eV 1)) [3, 4] (gN 3) (sA rngA (aC (eV 2) aN)) [4] (gN 4) (e2 D.add (eV 3) (eTup (aC (eV 4) aN)))))
/-- find_best(periods) slots 0 periods 1 found 2 period 3 some 4 shift 5 shifts -/
def s_find_best : SF := (sSeq (sSet 1 (eLst (aC (eTup (aC (eC (.int 0)) aN)) aN)))
  (sSeq (sFor (sItems (eCut (eV 0) (oS (eC (.int 1))) oN)) (gN 2)
    b_find_best_1)
  (sRet (eF D.bMinP (aC (eComp (sItems (eV 1)) [5] (gN 5) tYesF (eTup (aC (eF d_silence_of (aC (eV 0) (aC (eV 5) aN))) (aC (eV 5) aN)))) aN)))))
def d_find_best : List D → R D := body 5 s_find_best

/-- covering_shifts(periods) slots 0 periods -/
def s_covering_shifts : SF := (sSeq (sDrop (eF d_check_product_b (aC (eV 0) aN)))
  (sRet (e2 D.idx (eF d_find_best (aC (eV 0) aN)) (eC (.int 1)))))
def d_covering_shifts : List D → R D := body 0 s_covering_shifts

/-- meeting_groups(row) slots 0 row 1 group -/
def s_meeting_groups : SF := (sRet (eComp (sItems (eF d_all_groups (aC (eF D.bLen (aC (eV 0) aN)) aN))) [1] (gN 1) (tV (eNone (eF d_find_apart (aC (eF d_chosen (aC (eV 0) (aC (eV 1) aN))) aN)))) (eV 1)))
def d_meeting_groups : List D → R D := body 1 s_meeting_groups

/-- find_crowd(row) slots 0 row 1 group -/
def s_find_crowd : SF := (sRet (eF D.bMax (aC (e2 D.add (eLst (aC (eC (.int 0)) aN)) (eComp (sItems (eF d_meeting_groups (aC (eV 0) aN))) [1] (gN 1) tYesF (eF D.bLen (aC (eV 1) aN)))) aN)))
def d_find_crowd : List D → R D := body 1 s_find_crowd

/-- find_groups(row) slots 0 row 1 most 2 group -/
def s_find_groups : SF := (sSeq (sSet 1 (eF d_find_crowd (aC (eV 0) aN)))
  (sRet (eComp (sItems (eF d_meeting_groups (aC (eV 0) aN))) [2] (gN 2) (tV (e2 D.eq (eF D.bLen (aC (eV 2) aN)) (eV 1))) (eV 2))))
def d_find_groups : List D → R D := body 2 s_find_groups

def b_find_joined_1 : SF := (sSet 1 (eF d_both (aC (eV 1) (aC (eV 2) aN))))
/-- find_joined(row) slots 0 row 1 found 2 alarm -/
def s_find_joined : SF := (sSeq (sIf (tV (eNotNone (eF d_find_apart (aC (eV 0) aN))))
    (sRet (eC .non))
    sNx)
  (sSeq (sSet 1 (eTup (aC (eC (.int 1)) (aC (eC (.int 0)) aN))))
  (sSeq (sFor (sItems (eV 0)) (gN 2)
    b_find_joined_1)
  (sRet (eV 1)))))
def d_find_joined : List D → R D := body 2 s_find_joined

/-- crowd_time(row) slots 0 row 1 group -/
def s_crowd_time : SF := (sSeq (sDrop (eF d_check_row (aC (eV 0) aN)))
  (sRet (eF D.bMin (aC (e2 D.add (eComp (sItems (eF d_find_groups (aC (eV 0) aN))) [1] (gN 1) tYesF (e2 D.idx (eF d_find_joined (aC (eF d_chosen (aC (eV 0) (aC (eV 1) aN))) aN)) (eC (.int 1)))) (e2 D.mulB (eLst (aC (eC (.int 0)) aN)) (e2 D.eq (eV 0) (eTup aN)))) aN))))
def d_crowd_time : List D → R D := body 1 s_crowd_time

def b_crowds_1 : SF := (sSeq (sSet 3 (eF D.bLen (aC (eF d_find_ringing (aC (eV 0) (aC (eV 2) aN))) aN)))
  (sPut 1 (e2 D.add (e2 D.idx (eV 1) (eV 3)) (eC (.int 1))) (eV 3)))
/-- crowds(row) slots 0 row 1 found 2 time 3 size -/
def s_crowds : SF := (sSeq (sDrop (eF d_check_cycle (aC (eV 0) aN)))
  (sSeq (sSetO 1 (e2 D.mul (eLst (aC (eC (.int 0)) aN)) (e2 D.add (eF D.bLen (aC (eV 0) aN)) (eC (.int 1)))))
  (sSeq (sFor (sA rngA (aC (eF d_find_cycle (aC (eV 0) aN)) aN)) (gN 2)
    b_crowds_1)
  (sRet (eV 1)))))
def d_crowds : List D → R D := body 3 s_crowds

/-- cycle(row) slots 0 row -/
def s_cycle : SF := (sSeq (sDrop (eF d_check_row (aC (eV 0) aN)))
  (sRet (eF d_find_cycle (aC (eV 0) aN))))
def d_cycle : List D → R D := body 0 s_cycle

def b_delayed_times_1 : SF := (sDPut 4 (e2 D.add (eV 5) (e2 D.mul (eV 6) (eV 1))))
def b_delayed_times_2 : SF := (sFor (sA rngA (aC (e2 D.add (eV 2) (eC (.int 1))) aN)) (gN 6)
    b_delayed_times_1)
/-- delayed_times(alarm, delay, number, end) slots 0 alarm 1 delay 2 number 3 end 4 found 5 time 6 often -/
def s_delayed_times : SF := (sSeq (sDrop (eF d_check_alarm (aC (eV 0) aN)))
  (sSeq (sDrop (eF d_check_number (aC (eV 1) (aC (eC (.int 1)) (aC (eC (.int 30)) aN)))))
  (sSeq (sDrop (eF d_check_number (aC (eV 2) (aC (eC (.int 0)) (aC (eC (.int 5)) aN)))))
  (sSeq (sDrop (eF d_check_time (aC (eV 3) aN)))
  (sSeq (sIf (tV (e2 D.gt (eV 3) (eC (.int 1000))))
    (sRaise "TooLarge")
    sNx)
  (sSeq (sSetO 4 (eC (.dct [])))
  (sSeq (sFor (sA rngA (aC (e2 D.idx (eV 0) (eC (.int 1))) (aC (eV 3) (aC (e2 D.idx (eV 0) (eC (.int 0))) aN)))) (gN 5)
    b_delayed_times_2)
  (sRet (eF D.bSorted (aC (eCompD 4 [5] (gN 5) (tV (e2 D.lt (eV 5) (eV 3))) (eV 5)) aN))))))))))
def d_delayed_times : List D → R D := body 3 s_delayed_times

/-- do_cover(periods, candidate, silence) slots 0 periods 1 candidate 2 silence -/
def s_do_cover : SF := (sSeq (sDrop (eF d_check_short (aC (eV 0) aN)))
  (sSeq (sDrop (eF d_check_number (aC (eV 2) (aC (eC (.int 0)) (aC (eC (.int 8)) aN)))))
  (sRet (eAnd (eF d_are_shifts (aC (eV 0) (aC (eV 1) aN))) (e2 D.le (eF d_silence_of (aC (eV 0) (aC (eV 1) aN))) (eV 2))))))
def d_do_cover : List D → R D := body 0 s_do_cover

/-- do_meet(one, other, delay, number) slots 0 one 1 other 2 delay 3 number 4 common 5 often -/
def s_do_meet_b : SF := (sSeq (sSet 4 (eF d_divisor (aC (e2 D.idx (eV 0) (eC (.int 0))) (aC (e2 D.idx (eV 1) (eC (.int 0))) aN))))
  (sRet (eF D.bAny (aC (eComp (sA rngA (aC (e2 D.add (eV 3) (eC (.int 1))) aN)) [5] (gN 5) tYesF (e2 D.eq (e2 D.mod (e2 D.sub (e2 D.add (e2 D.idx (eV 0) (eC (.int 1))) (e2 D.mul (eV 5) (eV 2))) (e2 D.idx (eV 1) (eC (.int 1)))) (eV 4)) (eC (.int 0)))) aN))))
def d_do_meet_b : List D → R D := body 2 s_do_meet_b

/-- fewest_alike(period, silence) slots 0 period 1 silence -/
def s_fewest_alike : SF := (sSeq (sDrop (eF d_check_number (aC (eV 0) (aC (eC (.int 1)) (aC (eC (.int 60)) aN)))))
  (sSeq (sDrop (eF d_check_number (aC (eV 1) (aC (eC (.int 0)) (aC (eC (.int 60)) aN)))))
  (sRet (e2 D.fdiv (e2 D.add (eV 0) (eV 1)) (e2 D.add (eV 1) (eC (.int 1)))))))
def d_fewest_alike : List D → R D := body 0 s_fewest_alike

def b_find_silent_1 : SF := (sIf (tV (e2 D.eq (eF d_find_ringing (aC (eV 0) (aC (eV 1) aN))) (eLst aN)))
    (sRet (eV 1))
    sNx)
/-- find_silent(row) slots 0 row 1 time -/
def s_find_silent : SF := (sSeq (sFor (sA rngA (aC (eF d_find_cycle (aC (eV 0) aN)) aN)) (gN 1)
    b_find_silent_1)
  (sRet (eC .non)))
def d_find_silent : List D → R D := body 1 s_find_silent

/-- first_meeting(one, other) slots 0 one 1 other -/
def s_first_meeting : SF := (sSeq (sDrop (eF d_check_two (aC (eV 0) (aC (eV 1) aN))))
  (sRet (eIf (tV (eF d_do_meet (aC (eV 0) (aC (eV 1) aN)))) (e2 D.idx (eF d_both (aC (eV 0) (aC (eV 1) aN))) (eC (.int 1))) (eC .non))))
def d_first_meeting : List D → R D := body 0 s_first_meeting

/-- first_silent(row) slots 0 row -/
def s_first_silent : SF := (sSeq (sDrop (eF d_check_cycle (aC (eV 0) aN)))
  (sRet (eF d_find_silent (aC (eV 0) aN))))
def d_first_silent : List D → R D := body 0 s_first_silent

/-- first_together(row) slots 0 row 1 found -/
def s_first_together : SF := (sSeq (sDrop (eF d_check_row (aC (eV 0) aN)))
  (sSeq (sSet 1 (eF d_find_joined (aC (eV 0) aN)))
  (sRet (eIf (tV (eNotNone (eV 1))) (e2 D.idx (eV 1) (eC (.int 1))) (eC .non)))))
def d_first_together : List D → R D := body 1 s_first_together

/-- good_shifts(periods) slots 0 periods 1 found -/
def s_good_shifts : SF := (sSeq (sDrop (eF d_check_both (aC (eV 0) aN)))
  (sSeq (sSet 1 (eF d_all_good (aC (eV 0) aN)))
  (sRet (eIf (tV (e2 D.ne (eV 1) (eLst aN))) (e2 D.idx (eV 1) (eC (.int 0))) (eC .non)))))
def d_good_shifts : List D → R D := body 1 s_good_shifts

/-- greatest_crowd(row) slots 0 row -/
def s_greatest_crowd : SF := (sSeq (sDrop (eF d_check_row (aC (eV 0) aN)))
  (sRet (eF d_find_crowd (aC (eV 0) aN))))
def d_greatest_crowd : List D → R D := body 0 s_greatest_crowd

/-- is_never_silent(row) slots 0 row -/
def s_is_never_silent : SF := (sSeq (sDrop (eF d_check_cycle (aC (eV 0) aN)))
  (sRet (eNone (eF d_find_silent (aC (eV 0) aN)))))
def d_is_never_silent : List D → R D := body 0 s_is_never_silent

/-- joined(row) slots 0 row -/
def s_joined : SF := (sSeq (sDrop (eF d_check_row (aC (eV 0) aN)))
  (sRet (eF d_find_joined (aC (eV 0) aN))))
def d_joined : List D → R D := body 0 s_joined

/-- largest_groups(row) slots 0 row -/
def s_largest_groups : SF := (sSeq (sDrop (eF d_check_row (aC (eV 0) aN)))
  (sRet (eF d_find_groups (aC (eV 0) aN))))
def d_largest_groups : List D → R D := body 0 s_largest_groups

/-- least_delay(one, other) slots 0 one 1 other 2 found 3 delay -/
def s_least_delay : SF := (sSeq (sDrop (eF d_check_two (aC (eV 0) (aC (eV 1) aN))))
  (sSeq (sSet 2 (eComp (sA rngA (aC (eC (.int 1)) (aC (e2 D.add (eC (.int 30)) (eC (.int 1))) aN))) [3] (gN 3) (tV (eF d_do_meet_b (aC (eV 0) (aC (eV 1) (aC (eV 3) (aC (eC (.int 1)) aN)))))) (eV 3)))
  (sRet (eIf (tV (e2 D.ne (eV 2) (eLst aN))) (e2 D.idx (eV 2) (eC (.int 0))) (eC .non)))))
def d_least_delay : List D → R D := body 2 s_least_delay

/-- least_distance(one, other) slots 0 one 1 other 2 common 3 rest -/
def s_least_distance : SF := (sSeq (sDrop (eF d_check_two (aC (eV 0) (aC (eV 1) aN))))
  (sSeq (sSet 2 (eF d_divisor (aC (e2 D.idx (eV 0) (eC (.int 0))) (aC (e2 D.idx (eV 1) (eC (.int 0))) aN))))
  (sSeq (sSet 3 (e2 D.mod (e2 D.sub (e2 D.idx (eV 0) (eC (.int 1))) (e2 D.idx (eV 1) (eC (.int 1)))) (eV 2)))
  (sRet (eF D.bMin2 (aC (eV 3) (aC (e2 D.sub (eV 2) (eV 3)) aN)))))))
def d_least_distance : List D → R D := body 2 s_least_distance

/-- least_rings(row, length) slots 0 row 1 length -/
def s_least_rings : SF := (sRet (eF D.bMin (aC (eF d_all_windows (aC (eV 0) (aC (eV 1) aN))) aN)))
def d_least_rings : List D → R D := body 0 s_least_rings

/-- least_silence(periods) slots 0 periods -/
def s_least_silence : SF := (sSeq (sDrop (eF d_check_product_b (aC (eV 0) aN)))
  (sRet (e2 D.idx (eF d_find_best (aC (eV 0) aN)) (eC (.int 0)))))
def d_least_silence : List D → R D := body 0 s_least_silence

def b_length_for_1 : SF := (sExt 3 (e2 D.mul (eLst (aC (eV 4) aN)) (eF D.bLen (aC (eF d_find_ringing (aC (eV 0) (aC (eV 4) aN))) aN))))
def b_length_for_2 : SF := (sSeq (sSet 8 (e2 D.add (eV 7) (eV 1)))
  (sApp 6 (e2 D.sub (e2 D.add (e2 D.idx (eV 3) (e2 D.mod (eV 8) (eV 5))) (e2 D.mul (e2 D.fdiv (eV 8) (eV 5)) (eV 2))) (eV 4))))
/-- length_for(row, number) slots 0 row 1 number 2 cycle 3 times 4 time 5 many 6 found 7 index 8 later -/
def s_length_for : SF := (sSeq (sDrop (eF d_check_row (aC (eV 0) aN)))
  (sSeq (sDrop (eF d_check_number (aC (eV 1) (aC (eC (.int 0)) (aC (eC (.int 20)) aN)))))
  (sSeq (sDrop (eF d_check_cycle (aC (eV 0) aN)))
  (sSeq (sIf (tOrF (tV (e2 D.eq (eV 1) (eC (.int 0)))) (tV (e2 D.eq (eV 0) (eTup aN))))
    (sRet (eIf (tV (e2 D.eq (eV 1) (eC (.int 0)))) (eC (.int 1)) (eC .non)))
    sNx)
  (sSeq (sPar2 false 2 (eF d_find_cycle (aC (eV 0) aN)) true 3 (eLst aN))
  (sSeq (sFor (sA rngA (aC (eV 2) aN)) (gN 4)
    b_length_for_1)
  (sSeq (sPar2 false 5 (eF D.bLen (aC (eV 3) aN)) true 6 (eLst aN))
  (sSeq (sFor (sA enumA (aC (eV 3) aN)) (gT (gsC (gN 7) (gsC (gN 4) gs0)))
    b_length_for_2)
  (sRet (eF D.bMax (aC (eV 6) aN)))))))))))
def d_length_for : List D → R D := body 7 s_length_for

/-- meet(one, other) slots 0 one 1 other -/
def s_meet : SF := (sSeq (sDrop (eF d_check_two (aC (eV 0) (aC (eV 1) aN))))
  (sRet (eF d_do_meet (aC (eV 0) (aC (eV 1) aN)))))
def d_meet : List D → R D := body 0 s_meet

/-- meet_delayed(one, other, delay, number) slots 0 one 1 other 2 delay 3 number -/
def s_meet_delayed : SF := (sSeq (sDrop (eF d_check_two (aC (eV 0) (aC (eV 1) aN))))
  (sSeq (sDrop (eF d_check_number (aC (eV 2) (aC (eC (.int 1)) (aC (eC (.int 30)) aN)))))
  (sSeq (sDrop (eF d_check_number (aC (eV 3) (aC (eC (.int 0)) (aC (eC (.int 5)) aN)))))
  (sRet (eF d_do_meet_b (aC (eV 0) (aC (eV 1) (aC (eV 2) (aC (eV 3) aN)))))))))
def d_meet_delayed : List D → R D := body 0 s_meet_delayed

/-- meetings(one, other, number) slots 0 one 1 other 2 number 3 period 4 shift 5 count -/
def s_meetings : SF := (sSeq (sDrop (eF d_check_two (aC (eV 0) (aC (eV 1) aN))))
  (sSeq (sIf (tNotF (tV (eF d_is_int (aC (eV 2) (aC (eC (.int 0)) (aC (eC (.int 20)) aN))))))
    (sRaise "InvalidNumber")
    sNx)
  (sSeq (sIf (tNotF (tV (eF d_do_meet (aC (eV 0) (aC (eV 1) aN)))))
    (sRet (eLst aN))
    sNx)
  (sSeq (sAsg (gT (gsC (gN 3) (gsC (gN 4) gs0))) (eF d_both (aC (eV 0) (aC (eV 1) aN))))
  (sRet (eComp (sA rngA (aC (eV 2) aN)) [5] (gN 5) tYesF (e2 D.add (eV 4) (e2 D.mul (eV 3) (eV 5)))))))))
def d_meetings : List D → R D := body 3 s_meetings

/-- most_rings(row, length) slots 0 row 1 length -/
def s_most_rings : SF := (sRet (eF D.bMax (aC (eF d_all_windows (aC (eV 0) (aC (eV 1) aN))) aN)))
def d_most_rings : List D → R D := body 0 s_most_rings

/-- naive_crowd(row) slots 0 row 1 time -/
def s_naive_crowd : SF := (sSeq (sDrop (eF d_check_row (aC (eV 0) aN)))
  (sSeq (sDrop (eF d_check_cycle (aC (eV 0) aN)))
  (sRet (eF D.bMax (aC (eComp (sA rngA (aC (eF d_find_cycle (aC (eV 0) aN)) aN)) [1] (gN 1) tYesF (eF D.bLen (aC (eF d_find_ringing (aC (eV 0) (aC (eV 1) aN))) aN))) aN)))))
def d_naive_crowd : List D → R D := body 1 s_naive_crowd

/-- naive_meet(one, other) slots 0 one 1 other 2 time -/
def s_naive_meet : SF := (sSeq (sDrop (eF d_check_two (aC (eV 0) (aC (eV 1) aN))))
  (sRet (eF D.bAny (aC (eComp (sA rngA (aC (e2 D.mul (e2 D.idx (eV 0) (eC (.int 0))) (e2 D.idx (eV 1) (eC (.int 0)))) aN)) [2] (gN 2) tYesF (eAnd (eF d_does_ring (aC (eV 0) (aC (eV 2) aN))) (eF d_does_ring (aC (eV 1) (aC (eV 2) aN))))) aN))))
def d_naive_meet : List D → R D := body 1 s_naive_meet

def b_needless_1 : SF := (sSeq (sSet 3 (eF d_find_ringing (aC (eV 0) (aC (eV 2) aN))))
  (sIf (tV (e2 D.eq (eF D.bLen (aC (eV 3) aN)) (eC (.int 1))))
    (sDPut 1 (e2 D.idx (eV 3) (eC (.int 0))))
    sNx))
/-- needless(row) slots 0 row 1 alone 2 time 3 numbers 4 number -/
def s_needless : SF := (sSeq (sDrop (eF d_check_cycle (aC (eV 0) aN)))
  (sSeq (sSetO 1 (eC (.dct [])))
  (sSeq (sFor (sA rngA (aC (eF d_find_cycle (aC (eV 0) aN)) aN)) (gN 2)
    b_needless_1)
  (sRet (eComp (sA rngA (aC (eF D.bLen (aC (eV 0) aN)) aN)) [4] (gN 4) (tV (e2 D.dNotIn (eV 4) (eV 1))) (eV 4))))))
def d_needless : List D → R D := body 4 s_needless

/-- next_ring(alarm, time) slots 0 alarm 1 time -/
def s_next_ring : SF := (sSeq (sDrop (eF d_check_alarm (aC (eV 0) aN)))
  (sSeq (sDrop (eF d_check_time (aC (eV 1) aN)))
  (sRet (e2 D.add (eV 1) (e2 D.mod (e2 D.sub (e2 D.idx (eV 0) (eC (.int 1))) (eV 1)) (e2 D.idx (eV 0) (eC (.int 0))))))))
def d_next_ring : List D → R D := body 0 s_next_ring

/-- ring_times(row, start, end) slots 0 row 1 start 2 end 3 time -/
def s_ring_times : SF := (sSeq (sDrop (eF d_check_row (aC (eV 0) aN)))
  (sSeq (sDrop (eF d_check_time (aC (eV 1) aN)))
  (sSeq (sDrop (eF d_check_time (aC (eV 2) aN)))
  (sSeq (sIf (tV (e2 D.gt (e2 D.sub (eV 2) (eV 1)) (eC (.int 1000))))
    (sRaise "TooLarge")
    sNx)
  (sRet (eComp (sA rngA (aC (eV 1) (aC (eV 2) aN))) [3] (gN 3) (tV (e2 D.ne (eF d_find_ringing (aC (eV 0) (aC (eV 3) aN))) (eLst aN))) (eV 3)))))))
def d_ring_times : List D → R D := body 1 s_ring_times

/-- ringing(row, time) slots 0 row 1 time -/
def s_ringing : SF := (sSeq (sDrop (eF d_check_row (aC (eV 0) aN)))
  (sSeq (sDrop (eF d_check_time (aC (eV 1) aN)))
  (sRet (eF d_find_ringing (aC (eV 0) (aC (eV 1) aN))))))
def d_ringing : List D → R D := body 0 s_ringing

/-- rings(alarm, time) slots 0 alarm 1 time -/
def s_rings : SF := (sSeq (sDrop (eF d_check_alarm (aC (eV 0) aN)))
  (sSeq (sDrop (eF d_check_time (aC (eV 1) aN)))
  (sRet (eF d_does_ring (aC (eV 0) (aC (eV 1) aN))))))
def d_rings : List D → R D := body 0 s_rings

/-- rings_in(row, start, length) slots 0 row 1 start 2 length -/
def s_rings_in : SF := (sSeq (sDrop (eF d_check_row (aC (eV 0) aN)))
  (sSeq (sDrop (eF d_check_time (aC (eV 1) aN)))
  (sSeq (sDrop (eF d_check_number (aC (eV 2) (aC (eC (.int 1)) (aC (eC (.int 1000)) aN)))))
  (sRet (eF d_find_rings (aC (eV 0) (aC (eV 1) (aC (eV 2) aN))))))))
def d_rings_in : List D → R D := body 0 s_rings_in

/-- safe_delays(one, other, number) slots 0 one 1 other 2 number 3 delay -/
def s_safe_delays : SF := (sSeq (sDrop (eF d_check_two (aC (eV 0) (aC (eV 1) aN))))
  (sSeq (sDrop (eF d_check_number (aC (eV 2) (aC (eC (.int 0)) (aC (eC (.int 5)) aN)))))
  (sRet (eComp (sA rngA (aC (eC (.int 1)) (aC (e2 D.add (eC (.int 30)) (eC (.int 1))) aN))) [3] (gN 3) (tNotF (tV (eF d_do_meet_b (aC (eV 0) (aC (eV 1) (aC (eV 3) (aC (eV 2) aN))))))) (eV 3)))))
def d_safe_delays : List D → R D := body 1 s_safe_delays
end PP
end RT

namespace RT
namespace k20_whole_shifts
/-- _law_apart(_law_periods, _law_shifts) slots 0 _law_periods 1 _law_shifts 2 _law_row 3 _law_time -/
def s__law_apart : SF := (sSeq (sSet 2 (eF D.bZipT (aC (eV 0) (aC (eV 1) aN))))
  (sRet (eNot (eF D.bAny (aC (eComp (sA rngA (aC (eF PP.d__law_cycle (aC (eV 2) aN)) aN)) [3] (gN 3) tYesF (e2 D.gt (eF D.bLen (aC (eF PP.d__law_heard (aC (eV 2) (aC (eV 3) aN))) aN)) (eC (.int 1)))) aN)))))
def d__law_apart : List D → R D := body 2 s__law_apart

def b_law_1 : SF := (sSeq (sSet 5 (e2 D.idx (eTup (aC (eC (.int 1)) (aC (eC (.int 2)) (aC (eC (.int 2)) (aC (eC (.int 3)) (aC (eC (.int 4)) (aC (eC (.int 4)) (aC (eC (.int 6)) aN)))))))) (eF PP.d__law_pick (aC (eV 0) (aC (e2 D.add (e2 D.add (e2 D.mul (eC (.int 20)) (eV 1)) (eC (.int 1))) (eV 4)) (aC (eC (.int 7)) aN))))))
  (sIf (tV (e2 D.le (e2 D.mul (eV 3) (eV 5)) (eC (.int 100))))
    (sSeq (sApp 2 (eV 5))
  (sSet 3 (e2 D.mul (eV 3) (eV 5))))
    sNx))
def b_law_2 : SF := (sExt 7 (eComp (sA rngA (aC (eV 5) aN)) [11] (gN 11) tYesF (e2 D.add (eV 8) (eTup (aC (eV 11) aN)))))
def b_law_3 : SF := (sSeq (sSetO 7 (eLst aN))
  (sSeq (sFor (sItems (eV 6)) (gN 8)
    b_law_2)
  (sSet 6 (eV 7))))
def b_law_4 : SF := (sIf (tV (e2 D.ne (eF PP.d_are_good (aC (eV 2) (aC (eV 8) aN))) (e2 D.inT (eV 8) (eV 9))))
    (sRet (eC (.bl false)))
    sNx)
def b_law_5 : SF := (sSeq (sPar2 true 2 (eLst aN) false 3 (eC (.int 1)))
  (sSeq (sFor (sA rngA (aC (eF PP.d__law_pick (aC (eV 0) (aC (e2 D.mul (eC (.int 20)) (eV 1)) (aC (eC (.int 5)) aN)))) aN)) (gN 4)
    b_law_1)
  (sSeq (sSet 2 (eF D.bTuple (aC (eV 2) aN)))
  (sSeq (sSet 6 (eLst (aC (eTup aN) aN)))
  (sSeq (sFor (sItems (eV 2)) (gN 5)
    b_law_3)
  (sSeq (sSet 9 (eComp (sItems (eV 6)) [8] (gN 8) (tV (eF d__law_apart (aC (eV 2) (aC (eV 8) aN)))) (eV 8)))
  (sSeq (sIf (tOrF (tV (e2 D.ne (eF PP.d_good_shifts (aC (eV 2) aN)) (eIf (tV (e2 D.ne (eV 9) (eLst aN))) (e2 D.idx (eV 9) (eC (.int 0))) (eC .non)))) (tV (e2 D.ne (eF PP.d_count_good (aC (eV 2) aN)) (eF D.bLen (aC (eV 9) aN)))))
    (sRet (eC (.bl false)))
    sNx)
  (sSeq (sFor (sItems (e2 D.add (eCut (eV 6) oN (oS (eC (.int 6)))) (eCut (eV 6) (oS (e1 D.neg (eC (.int 4)))) oN))) (gN 8)
    b_law_4)
  (sSeq (sSetO 10 (eLst (aC (eC .non) (aC (eIf (tV (e2 D.ne (eV 9) (eLst aN))) (eF D.bList (aC (e2 D.idx (eV 9) (eC (.int 0))) aN)) (eC (.int 5))) (aC (e2 D.mul (eTup (aC (eC (.int 0)) aN)) (eC (.int 7))) (aC (e2 D.add (eF D.bTuple (aC (eComp (sItems (eV 2)) [5] (gN 5) tYesF (e2 D.sub (eC (.int 0)) (eC (.int 1)))) aN)) (eTup (aC (eC (.int 0)) aN))) (aC (eC (.str "a")) aN)))))))
  (sSeq (sApp 10 (eIf (tV (e2 D.ne (eV 2) (eTup aN))) (eF D.bTuple (aC (eF D.bList (aC (eV 2) aN)) aN)) (eTup (aC (eC (.int 1)) aN))))
  (sIf (tV (eF D.bAny (aC (eComp (sItems (eV 10)) [12] (gN 12) tYesF (e2 D.isNotB (eF PP.d_are_good (aC (eV 2) (aC (eV 12) aN))) (eC (.bl false)))) aN)))
    (sRet (eC (.bl false)))
    sNx)))))))))))
/-- law(_law_script) slots 0 _law_script 1 _law_i 2 _law_periods 3 _law_most 4 _law_j 5 _law_period 6 _law_every 7 _law_longer 8 _law_some 9 _law_good 10 _law_bad 11 _law_shift 12 _law_value -/
def s_law : SF := (sSeq (sFor (sA rngA (aC (eC (.int 2)) aN)) (gN 1)
    b_law_5)
  (sRet (eAnd (e2 D.isB (eF PP.d_are_good (aC (eTup (aC (eC (.int 1)) aN)) (aC (eTup (aC (eC (.bl true)) aN)) aN))) (eC (.bl false))) (eAnd (eNone (eF PP.d_good_shifts (aC (eTup (aC (eC (.int 2)) (aC (eC (.int 2)) (aC (eC (.int 4)) aN)))) aN))) (e2 D.eq (eF PP.d_count_good (aC (eTup aN) aN)) (eC (.int 1)))))))
def d_law : List D → R D := body 12 s_law
end k20_whole_shifts
end RT


namespace RT
namespace k20_whole_shifts
open PySem PySem.Spec PyProof.Rows L2

/-! the text -/
def topS (i : Nat) : Stmt := PySem.Challenge.pw_ringtimes_k20_whole_shifts.main.body.getD i (.Pass ⟨0, 0, 0, 0⟩)
abbrev t_is_int : Stmt := topS 6
abbrev t_divisor : Stmt := topS 7
abbrev t_do_meet : Stmt := topS 9
abbrev t_check_periods : Stmt := topS 13
abbrev t_check_product : Stmt := topS 14
abbrev t_fits : Stmt := topS 15
abbrev t_are_good : Stmt := topS 16
abbrev t_all_good : Stmt := topS 17
abbrev t_check_both : Stmt := topS 18
abbrev t_good_shifts : Stmt := topS 19
abbrev t_count_good : Stmt := topS 20
abbrev t__law_heard : Stmt := topS 22
abbrev t__law_cycle : Stmt := topS 23
abbrev t__law_pick : Stmt := topS 24
abbrev t__law_apart : Stmt := topS 25
abbrev t_law : Stmt := topS 26
theorem sc_is_int : FnScope ["value", "least", "most"] ["value", "least", "most"] (defScope t_is_int) := ⟨rfl, rfl, rfl, by decide +kernel, rfl, by decide +kernel, by decide +kernel⟩
theorem sc_divisor : FnScope ["one", "other"] ["one", "other"] (defScope t_divisor) := ⟨rfl, rfl, rfl, by decide +kernel, rfl, by decide +kernel, by decide +kernel⟩
theorem sc_do_meet : FnScope ["one", "other"] ["one", "other"] (defScope t_do_meet) := ⟨rfl, rfl, rfl, by decide +kernel, rfl, by decide +kernel, by decide +kernel⟩
theorem sc_check_periods : FnScope ["value", "one"] ["value"] (defScope t_check_periods) := ⟨rfl, rfl, rfl, by decide +kernel, rfl, by decide +kernel, by decide +kernel⟩
theorem sc_check_product : FnScope ["periods", "found", "period"] ["periods"] (defScope t_check_product) := ⟨rfl, rfl, rfl, by decide +kernel, rfl, by decide +kernel, by decide +kernel⟩
theorem sc_fits : FnScope ["row", "alarm", "one"] ["row", "alarm"] (defScope t_fits) := ⟨rfl, rfl, rfl, by decide +kernel, rfl, by decide +kernel, by decide +kernel⟩
theorem sc_are_good : FnScope ["periods", "candidate", "row", "period", "shift", "number", "alarm"] ["periods", "candidate"] (defScope t_are_good) := ⟨rfl, rfl, rfl, by decide +kernel, rfl, by decide +kernel, by decide +kernel⟩
theorem sc_all_good : FnScope ["periods", "found", "number", "period", "longer", "shifts", "row", "shift"] ["periods"] (defScope t_all_good) := ⟨rfl, rfl, rfl, by decide +kernel, rfl, by decide +kernel, by decide +kernel⟩
theorem sc_check_both : FnScope ["periods"] ["periods"] (defScope t_check_both) := ⟨rfl, rfl, rfl, by decide +kernel, rfl, by decide +kernel, by decide +kernel⟩
theorem sc_good_shifts : FnScope ["periods", "found"] ["periods"] (defScope t_good_shifts) := ⟨rfl, rfl, rfl, by decide +kernel, rfl, by decide +kernel, by decide +kernel⟩
theorem sc_count_good : FnScope ["periods"] ["periods"] (defScope t_count_good) := ⟨rfl, rfl, rfl, by decide +kernel, rfl, by decide +kernel, by decide +kernel⟩
theorem sc__law_heard : FnScope ["_law_row", "_law_time", "_law_i"] ["_law_row", "_law_time"] (defScope t__law_heard) := ⟨rfl, rfl, rfl, by decide +kernel, rfl, by decide +kernel, by decide +kernel⟩
theorem sc__law_cycle : FnScope ["_law_row", "_law_period", "_law_one", "_law_shift", "_law_more"] ["_law_row"] (defScope t__law_cycle) := ⟨rfl, rfl, rfl, by decide +kernel, rfl, by decide +kernel, by decide +kernel⟩
theorem sc__law_pick : FnScope ["_law_script", "_law_k", "_law_many", "_law_cell", "_law_rest", "_law_again", "_law_drawn"] ["_law_script", "_law_k", "_law_many"] (defScope t__law_pick) := ⟨rfl, rfl, rfl, by decide +kernel, rfl, by decide +kernel, by decide +kernel⟩
theorem sc__law_apart : FnScope ["_law_periods", "_law_shifts", "_law_row", "_law_time"] ["_law_periods", "_law_shifts"] (defScope t__law_apart) := ⟨rfl, rfl, rfl, by decide +kernel, rfl, by decide +kernel, by decide +kernel⟩
theorem sc_law : FnScope ["_law_script", "_law_i", "_law_periods", "_law_most", "_law_j", "_law_period", "_law_every", "_law_longer", "_law_some", "_law_good", "_law_bad", "_law_shift", "_law_value"] ["_law_script"] (defScope t_law) := ⟨rfl, rfl, rfl, by decide +kernel, rfl, by decide +kernel, by decide +kernel⟩
/-- what the top leaves -/
structure Txt (K : PySem.W.Frag) (mg : Str → Option Value) where
  is_int : DefT K mg "is_int" "is_int" t_is_int ["value", "least", "most"]
  divisor : DefT K mg "divisor" "divisor" t_divisor ["one", "other"]
  do_meet : DefT K mg "do_meet" "do_meet" t_do_meet ["one", "other"]
  check_periods : DefT K mg "check_periods" "check_periods" t_check_periods ["value"]
  check_product : DefT K mg "check_product" "check_product" t_check_product ["periods"]
  fits : DefT K mg "fits" "fits" t_fits ["row", "alarm"]
  are_good : DefT K mg "are_good" "are_good" t_are_good ["periods", "candidate"]
  all_good : DefT K mg "all_good" "all_good" t_all_good ["periods"]
  check_both : DefT K mg "check_both" "check_both" t_check_both ["periods"]
  good_shifts : DefT K mg "good_shifts" "good_shifts" t_good_shifts ["periods"]
  count_good : DefT K mg "count_good" "count_good" t_count_good ["periods"]
  _law_heard : DefT K mg "_law_heard" "_law_heard" t__law_heard ["_law_row", "_law_time"]
  _law_cycle : DefT K mg "_law_cycle" "_law_cycle" t__law_cycle ["_law_row"]
  _law_pick : DefT K mg "_law_pick" "_law_pick" t__law_pick ["_law_script", "_law_k", "_law_many"]
  _law_apart : DefT K mg "_law_apart" "_law_apart" t__law_apart ["_law_periods", "_law_shifts"]
  law : DefT K mg "law" "law" t_law ["_law_script"]
  InvalidPeriods : ExcT K mg "InvalidPeriods"
  TooLarge : ExcT K mg "TooLarge"
  z_all : mg "all" = none
  z_any : mg "any" = none
  z_bool : mg "bool" = none
  z_enumerate : mg "enumerate" = none
  z_int : mg "int" = none
  z_isinstance : mg "isinstance" = none
  z_len : mg "len" = none
  z_list : mg "list" = none
  z_max : mg "max" = none
  z_range : mg "range" = none
  z_tuple : mg "tuple" = none
  z_zip : mg "zip" = none
  MAX_PERIOD : (t : Tok) ×' mg "MAX_PERIOD" = some (.int 12 t)
  MAX_PRODUCT : (t : Tok) ×' mg "MAX_PRODUCT" = some (.int 20000 t)
  MAX_ROW : (t : Tok) ×' mg "MAX_ROW" = some (.int 6 t)
section
variable {P : Program} {w : World} {K : PySem.W.Frag} {mg : Str → Option Value} {base : Heap}
theorem ok_is_int (T : Txt K mg) : FnOk P w K mg base (L2.CX P w) 1 T.is_int.fa T.is_int.fd ["value", "least", "most"] (spD K mg 3 PP.d_is_int) := by
  refine fn_ok (m := 0) (O' := []) T.is_int.F sc_is_int rfl fun cdv A outer sh H E hr => ?_
  have nd := sc_is_int.nd
  have tk : Takes (cxOf (L2.CX P w) P w K mg base ["value", "least", "most"] "is_int" (defScope t_is_int) T.is_int.fa cdv A outer sh H E) (fun cls d _ H => E cls d H) := takes_of rfl rfl rfl rfl
  have hp : PassesOwn (model P w) (cxOf (L2.CX P w) P w K mg base ["value", "least", "most"] "is_int" (defScope t_is_int) T.is_int.fa cdv A outer sh H E).A (cxOf (L2.CX P w) P w K mg base ["value", "least", "most"] "is_int" (defScope t_is_int) T.is_int.fa cdv A outer sh H E).env (cxOf (L2.CX P w) P w K mg base ["value", "least", "most"] "is_int" (defScope t_is_int) T.is_int.fa cdv A outer sh H E).xe := passes_of rfl
  unfold PP.s_is_int
  exact (pssd_one (psd_ret (pd_and (PD.fl (pd_isI .int (by rfl) T.z_isinstance (by decide +kernel) (by rfl) T.z_int (by decide +kernel) (PD.rl (pd_v 0)))) (pd_and (PD.fl (pd_not (PD.fl (pd_isI .bool (by rfl) T.z_isinstance (by decide +kernel) (by rfl) T.z_bool (by decide +kernel) (PD.rl (pd_v 0)))))) (pd_one (PD.frz (pd_chain op_le op_le (ok_cmp : Ok2 _ _ _ D.le) (ok_cmp : Ok2 _ _ _ D.le) (PD.rl (pd_v 1)) (PD.rl (pd_v 0)) (PD.rl (pd_v 2)))))))))
theorem ok_divisor (T : Txt K mg) : FnOk P w K mg base (L2.CX P w) 1 T.divisor.fa T.divisor.fd ["one", "other"] (spD K mg 2 PP.d_divisor) := by
  refine fn_ok (m := 0) (O' := []) T.divisor.F sc_divisor rfl fun cdv A outer sh H E hr => ?_
  have nd := sc_divisor.nd
  have tk : Takes (cxOf (L2.CX P w) P w K mg base ["one", "other"] "divisor" (defScope t_divisor) T.divisor.fa cdv A outer sh H E) (fun cls d _ H => E cls d H) := takes_of rfl rfl rfl rfl
  have hp : PassesOwn (model P w) (cxOf (L2.CX P w) P w K mg base ["one", "other"] "divisor" (defScope t_divisor) T.divisor.fa cdv A outer sh H E).A (cxOf (L2.CX P w) P w K mg base ["one", "other"] "divisor" (defScope t_divisor) T.divisor.fa cdv A outer sh H E).env (cxOf (L2.CX P w) P w K mg base ["one", "other"] "divisor" (defScope t_divisor) T.divisor.fa cdv A outer sh H E).xe := passes_of rfl
  unfold PP.s_divisor PP.b_divisor_1
  exact (pssd_cons (psd_while hp (ptd_cmp op_gt (ok_cmp : Ok2 _ _ _ D.gt) (PD.rl (pd_v 1)) (PD.rl pd_int) (nomark _))
    (pssd_one (psd_par (bi := false) (bj := false) (i := 0) (j := 1) rfl rfl rfl nd rfl rfl (by decide) rfl rfl (pd_v 1) (PD.frz (pd_op op_mod ok_mod (PD.rl (pd_v 0)) (PD.rl (pd_v 1)))))))
  (pssd_one (psd_ret (pd_v 0))))
theorem ok_do_meet (T : Txt K mg) (g_divisor : FnOk P w K mg base (L2.CX P w) 1 T.divisor.fa T.divisor.fd ["one", "other"] (spD K mg 2 PP.d_divisor)) : FnOk P w K mg base (L2.CX P w) 2 T.do_meet.fa T.do_meet.fd ["one", "other"] (spD K mg 2 PP.d_do_meet) := by
  refine fn_ok (m := 0) (O' := []) T.do_meet.F sc_do_meet rfl fun cdv A outer sh H E hr => ?_
  have nd := sc_do_meet.nd
  have tk : Takes (cxOf (L2.CX P w) P w K mg base ["one", "other"] "do_meet" (defScope t_do_meet) T.do_meet.fa cdv A outer sh H E) (fun cls d _ H => E cls d H) := takes_of rfl rfl rfl rfl
  have hp : PassesOwn (model P w) (cxOf (L2.CX P w) P w K mg base ["one", "other"] "do_meet" (defScope t_do_meet) T.do_meet.fa cdv A outer sh H E).A (cxOf (L2.CX P w) P w K mg base ["one", "other"] "do_meet" (defScope t_do_meet) T.do_meet.fa cdv A outer sh H E).env (cxOf (L2.CX P w) P w K mg base ["one", "other"] "do_meet" (defScope t_do_meet) T.do_meet.fa cdv A outer sh H E).xe := passes_of rfl
  unfold PP.s_do_meet
  exact (pssd_one (psd_ret (PD.frz (pd_cmp (op_eqD hr.units) ok_eq (PD.fl (pd_op op_mod ok_mod (PD.fl (pd_op op_sub ok_sub (PD.rl (pd_idx (PD.rl (pd_v 0)) (PD.rl pd_int))) (PD.rl (pd_idx (PD.rl (pd_v 1)) (PD.rl pd_int))))) (PD.rl (pd_callD T.divisor g_divisor (hr.mono (by decide)) tk (pad_cons (pd_idx (PD.rl (pd_v 0)) (PD.rl pd_int)) (pad_cons (pd_idx (PD.rl (pd_v 1)) (PD.rl pd_int)) pad_nil)) (aC_len (aC_len aN_len)))))) (PD.rl pd_int) (nomark _)))))
theorem ok_check_periods (T : Txt K mg) (g_is_int : FnOk P w K mg base (L2.CX P w) 1 T.is_int.fa T.is_int.fd ["value", "least", "most"] (spD K mg 3 PP.d_is_int)) : FnOk P w K mg base (L2.CX P w) 2 T.check_periods.fa T.check_periods.fd ["value"] (spD K mg 1 PP.d_check_periods) := by
  refine fn_ok (m := 1) (O' := []) T.check_periods.F sc_check_periods rfl fun cdv A outer sh H E hr => ?_
  have nd := sc_check_periods.nd
  have tk : Takes (cxOf (L2.CX P w) P w K mg base ["value", "one"] "check_periods" (defScope t_check_periods) T.check_periods.fa cdv A outer sh H E) (fun cls d _ H => E cls d H) := takes_of rfl rfl rfl rfl
  have hp : PassesOwn (model P w) (cxOf (L2.CX P w) P w K mg base ["value", "one"] "check_periods" (defScope t_check_periods) T.check_periods.fa cdv A outer sh H E).A (cxOf (L2.CX P w) P w K mg base ["value", "one"] "check_periods" (defScope t_check_periods) T.check_periods.fa cdv A outer sh H E).env (cxOf (L2.CX P w) P w K mg base ["value", "one"] "check_periods" (defScope t_check_periods) T.check_periods.fa cdv A outer sh H E).xe := passes_of rfl
  unfold PP.s_check_periods
  exact (pssd_one (psd_if (PWD.pt (ptd_or (ptd_not (ptd_val (PD.fl (pd_isI .tuple (by rfl) T.z_isinstance (by decide +kernel) (by rfl) T.z_tuple (by decide +kernel) (PD.rl (pd_v 0)))))) (ptd_or (ptd_cmp op_gt (ok_cmp : Ok2 _ _ _ D.gt) (PD.fl (pd_callB call_len ok_len (by rfl) T.z_len (by decide +kernel) (pad_consL (PD.rl (pd_v 0)) pad_nil))) (PD.rl (pd_globI (by rfl) T.MAX_ROW.2)) (nomark _)) (ptd_or1 (ptd_not (ptd_val (PD.fl (pd_callB (cr_all rfl) ok_all (by rfl) T.z_all (by decide +kernel) (pad_consL (PD.fl (pd_lc (own := [("one", 1)]) rfl nd (pid_seq (pd_v 0)) (blkOk_by (by kernel_rfl)) (fun _ _ _ _ _ => (pgd_name (i := 1) rfl nd rfl (by first | exact Or.inl rfl | exact Or.inr rfl))) (fun _ _ _ _ _ => ptsd_nil) (fun _ _ _ _ _ => (pd_callD T.is_int g_is_int (hr.mono (by decide)) takes0 (pad_cons (pd_v 1) (pad_cons pd_int (pad_cons (pd_globI (by rfl) T.MAX_PERIOD.2) pad_nil))) (aC_len (aC_len (aC_len aN_len))))) (by decide))) pad_nil)))))))))
    (pssd_one (psd_raiseT T.InvalidPeriods tk))
    pssd_nil))
theorem ok_check_product (T : Txt K mg) : FnOk P w K mg base (L2.CX P w) 1 T.check_product.fa T.check_product.fd ["periods"] (spD K mg 1 PP.d_check_product) := by
  refine fn_ok (m := 2) (O' := []) T.check_product.F sc_check_product rfl fun cdv A outer sh H E hr => ?_
  have nd := sc_check_product.nd
  have tk : Takes (cxOf (L2.CX P w) P w K mg base ["periods", "found", "period"] "check_product" (defScope t_check_product) T.check_product.fa cdv A outer sh H E) (fun cls d _ H => E cls d H) := takes_of rfl rfl rfl rfl
  have hp : PassesOwn (model P w) (cxOf (L2.CX P w) P w K mg base ["periods", "found", "period"] "check_product" (defScope t_check_product) T.check_product.fa cdv A outer sh H E).A (cxOf (L2.CX P w) P w K mg base ["periods", "found", "period"] "check_product" (defScope t_check_product) T.check_product.fa cdv A outer sh H E).env (cxOf (L2.CX P w) P w K mg base ["periods", "found", "period"] "check_product" (defScope t_check_product) T.check_product.fa cdv A outer sh H E).xe := passes_of rfl
  unfold PP.s_check_product PP.b_check_product_1
  exact (pssd_cons (psd_set (i := 1) rfl nd rfl (by first | exact Or.inl rfl | exact Or.inr rfl) pd_int)
  (pssd_cons (psd_for hp rfl (pid_seq (pd_v 0)) (pgd_name (i := 2) rfl nd rfl (by first | exact Or.inl rfl | exact Or.inr rfl)) (gok_name (i := 2)) (by decide)
    (pssd_one (psd_set (i := 1) rfl nd rfl (by first | exact Or.inl rfl | exact Or.inr rfl) (PD.frz (pd_op op_mulA ok_mul (PD.rl (pd_v 1)) (PD.rl (pd_v 2)))))))
  (pssd_one (psd_if (ptd_cmp op_gt (ok_cmp : Ok2 _ _ _ D.gt) (PD.rl (pd_v 1)) (PD.rl (pd_globI (by rfl) T.MAX_PRODUCT.2)) (nomark _))
    (pssd_one (psd_raiseT T.TooLarge tk))
    pssd_nil))))
theorem ok_fits (T : Txt K mg) (g_do_meet : FnOk P w K mg base (L2.CX P w) 2 T.do_meet.fa T.do_meet.fd ["one", "other"] (spD K mg 2 PP.d_do_meet)) : FnOk P w K mg base (L2.CX P w) 3 T.fits.fa T.fits.fd ["row", "alarm"] (spD K mg 2 PP.d_fits) := by
  refine fn_ok (m := 1) (O' := []) T.fits.F sc_fits rfl fun cdv A outer sh H E hr => ?_
  have nd := sc_fits.nd
  have tk : Takes (cxOf (L2.CX P w) P w K mg base ["row", "alarm", "one"] "fits" (defScope t_fits) T.fits.fa cdv A outer sh H E) (fun cls d _ H => E cls d H) := takes_of rfl rfl rfl rfl
  have hp : PassesOwn (model P w) (cxOf (L2.CX P w) P w K mg base ["row", "alarm", "one"] "fits" (defScope t_fits) T.fits.fa cdv A outer sh H E).A (cxOf (L2.CX P w) P w K mg base ["row", "alarm", "one"] "fits" (defScope t_fits) T.fits.fa cdv A outer sh H E).env (cxOf (L2.CX P w) P w K mg base ["row", "alarm", "one"] "fits" (defScope t_fits) T.fits.fa cdv A outer sh H E).xe := passes_of rfl
  unfold PP.s_fits
  exact (pssd_one (psd_ret (PD.frz (pd_not (PD.fl (pd_callB (cr_any rfl) ok_any (by rfl) T.z_any (by decide +kernel) (pad_consL (PD.fl (pd_lc (own := [("one", 2)]) rfl nd (pid_seq (pd_v 0)) (blkOk_by (by kernel_rfl)) (fun _ _ _ _ _ => (pgd_name (i := 2) rfl nd rfl (by first | exact Or.inl rfl | exact Or.inr rfl))) (fun _ _ _ _ _ => ptsd_nil) (fun _ _ _ _ _ => (pd_callD T.do_meet g_do_meet (hr.mono (by decide)) takes0 (pad_cons (pd_v 2) (pad_cons (pd_v 1) pad_nil)) (aC_len (aC_len aN_len)))) (by decide))) pad_nil)))))))
theorem ok_are_good (T : Txt K mg) (g_check_periods : FnOk P w K mg base (L2.CX P w) 2 T.check_periods.fa T.check_periods.fd ["value"] (spD K mg 1 PP.d_check_periods)) (g_is_int : FnOk P w K mg base (L2.CX P w) 1 T.is_int.fa T.is_int.fd ["value", "least", "most"] (spD K mg 3 PP.d_is_int)) (g_fits : FnOk P w K mg base (L2.CX P w) 3 T.fits.fa T.fits.fd ["row", "alarm"] (spD K mg 2 PP.d_fits)) : FnOk P w K mg base (L2.CX P w) 4 T.are_good.fa T.are_good.fd ["periods", "candidate"] (spD K mg 2 PP.d_are_good) := by
  refine fn_ok (m := 5) (O' := []) T.are_good.F sc_are_good rfl fun cdv A outer sh H E hr => ?_
  have nd := sc_are_good.nd
  have tk : Takes (cxOf (L2.CX P w) P w K mg base ["periods", "candidate", "row", "period", "shift", "number", "alarm"] "are_good" (defScope t_are_good) T.are_good.fa cdv A outer sh H E) (fun cls d _ H => E cls d H) := takes_of rfl rfl rfl rfl
  have hp : PassesOwn (model P w) (cxOf (L2.CX P w) P w K mg base ["periods", "candidate", "row", "period", "shift", "number", "alarm"] "are_good" (defScope t_are_good) T.are_good.fa cdv A outer sh H E).A (cxOf (L2.CX P w) P w K mg base ["periods", "candidate", "row", "period", "shift", "number", "alarm"] "are_good" (defScope t_are_good) T.are_good.fa cdv A outer sh H E).env (cxOf (L2.CX P w) P w K mg base ["periods", "candidate", "row", "period", "shift", "number", "alarm"] "are_good" (defScope t_are_good) T.are_good.fa cdv A outer sh H E).xe := passes_of rfl
  unfold PP.s_are_good
  exact (pssd_cons (psd_drop (PD.rl (pd_callD T.check_periods g_check_periods (hr.mono (by decide)) tk (pad_cons (pd_v 0) pad_nil) (aC_len aN_len))))
  (pssd_cons (psd_if (PWD.pt (ptd_or (ptd_not (ptd_val (PD.fl (pd_isI .tuple (by rfl) T.z_isinstance (by decide +kernel) (by rfl) T.z_tuple (by decide +kernel) (PD.rl (pd_v 1)))))) (ptd_or1 (ptd_cmp (op_neD hr.units) ok_ne (PD.fl (pd_callB call_len ok_len (by rfl) T.z_len (by decide +kernel) (pad_consL (PD.rl (pd_v 1)) pad_nil))) (PD.fl (pd_callB call_len ok_len (by rfl) T.z_len (by decide +kernel) (pad_consL (PD.rl (pd_v 0)) pad_nil))) (nomark _)))))
    (pssd_one (psd_ret pd_bl))
    pssd_nil)
  (pssd_cons (psd_if (ptd_not (ptd_val (PD.fl (pd_callB (cr_all rfl) ok_all (by rfl) T.z_all (by decide +kernel) (pad_consL (PD.fl (pd_lc (own := [("period", 3), ("shift", 4)]) rfl nd (pid_zip (by rfl) T.z_zip (pd_v 0) (pd_v 1)) (blkOk_by (by kernel_rfl)) (fun _ _ _ _ _ => (pgd_tup rfl (pgd_cons (pgd_name (i := 3) rfl nd rfl (by first | exact Or.inl rfl | exact Or.inr rfl)) (pgd_cons (pgd_name (i := 4) rfl nd rfl (by first | exact Or.inl rfl | exact Or.inr rfl)) pgd_nil)) (gsC_len (gsC_len gs0_len)))) (fun _ _ _ _ _ => ptsd_nil) (fun _ _ _ _ _ => (pd_callD T.is_int g_is_int (hr.mono (by decide)) takes0 (pad_cons (pd_v 4) (pad_cons pd_int (pad_cons (PD.frz (pd_op op_sub ok_sub (PD.rl (pd_v 3)) (PD.rl pd_int))) pad_nil))) (aC_len (aC_len (aC_len aN_len))))) (by decide))) pad_nil)))))
    (pssd_one (psd_ret pd_bl))
    pssd_nil)
  (pssd_cons (psd_set (i := 2) rfl nd rfl (by first | exact Or.inl rfl | exact Or.inr rfl) (pd_tupZip (by rfl) T.z_tuple (by rfl) T.z_zip (pd_v 0) (pd_v 1)))
  (pssd_one (psd_ret (PD.frz (pd_callB (cr_all rfl) ok_all (by rfl) T.z_all (by decide +kernel) (pad_consL (PD.fl (pd_lc (own := [("number", 5), ("alarm", 6)]) rfl nd (pid_enum (by rfl) T.z_enumerate (pd_v 2)) (blkOk_by (by kernel_rfl)) (fun _ _ _ _ _ => (pgd_tup rfl (pgd_cons (pgd_name (i := 5) rfl nd rfl (by first | exact Or.inl rfl | exact Or.inr rfl)) (pgd_cons (pgd_name (i := 6) rfl nd rfl (by first | exact Or.inl rfl | exact Or.inr rfl)) pgd_nil)) (gsC_len (gsC_len gs0_len)))) (fun _ _ _ _ _ => ptsd_nil) (fun _ _ _ _ _ => (pd_callD T.fits g_fits (hr.mono (by decide)) takes0 (pad_cons (PD.frz (pd_slice (PD.rl (pd_v 2)) pod_none (pod_some (PD.rl (pd_v 5))))) (pad_cons (pd_v 6) pad_nil)) (aC_len (aC_len aN_len)))) (by decide))) pad_nil)))))))))
theorem ok_all_good (T : Txt K mg) (g_fits : FnOk P w K mg base (L2.CX P w) 3 T.fits.fa T.fits.fd ["row", "alarm"] (spD K mg 2 PP.d_fits)) : FnOk P w K mg base (L2.CX P w) 4 T.all_good.fa T.all_good.fd ["periods"] (spD K mg 1 PP.d_all_good) := by
  refine fn_ok (m := 7) (O' := []) T.all_good.F sc_all_good rfl fun cdv A outer sh H E hr => ?_
  have nd := sc_all_good.nd
  have tk : Takes (cxOf (L2.CX P w) P w K mg base ["periods", "found", "number", "period", "longer", "shifts", "row", "shift"] "all_good" (defScope t_all_good) T.all_good.fa cdv A outer sh H E) (fun cls d _ H => E cls d H) := takes_of rfl rfl rfl rfl
  have hp : PassesOwn (model P w) (cxOf (L2.CX P w) P w K mg base ["periods", "found", "number", "period", "longer", "shifts", "row", "shift"] "all_good" (defScope t_all_good) T.all_good.fa cdv A outer sh H E).A (cxOf (L2.CX P w) P w K mg base ["periods", "found", "number", "period", "longer", "shifts", "row", "shift"] "all_good" (defScope t_all_good) T.all_good.fa cdv A outer sh H E).env (cxOf (L2.CX P w) P w K mg base ["periods", "found", "number", "period", "longer", "shifts", "row", "shift"] "all_good" (defScope t_all_good) T.all_good.fa cdv A outer sh H E).xe := passes_of rfl
  unfold PP.s_all_good PP.b_all_good_2 PP.b_all_good_1
  exact (pssd_cons (psd_set (i := 1) rfl nd rfl (by first | exact Or.inl rfl | exact Or.inr rfl) (PD.frz (pd_lst (pad_cons (pd_tup pad_nil) pad_nil))))
  (pssd_cons (psd_for hp rfl (pid_enum (by rfl) T.z_enumerate (pd_v 0)) (pgd_tup rfl (pgd_cons (pgd_name (i := 2) rfl nd rfl (by first | exact Or.inl rfl | exact Or.inr rfl)) (pgd_cons (pgd_name (i := 3) rfl nd rfl (by first | exact Or.inl rfl | exact Or.inr rfl)) pgd_nil)) (gsC_len (gsC_len gs0_len))) (gok_tup (gok_cons (gok_name (i := 2)) (gok_cons (gok_name (i := 3)) gok_nil))) (by decide)
    (pssd_cons (psd_setO (i := 4) rfl nd rfl (by first | exact Or.inl rfl | exact Or.inr rfl) (pd_lst pad_nil))
  (pssd_cons (psd_for hp rfl (pid_seq (pd_v 1)) (pgd_name (i := 5) rfl nd rfl (by first | exact Or.inl rfl | exact Or.inr rfl)) (gok_name (i := 5)) (by decide)
    (pssd_cons (psd_set (i := 6) rfl nd rfl (by first | exact Or.inl rfl | exact Or.inr rfl) (pd_tupZip (by rfl) T.z_tuple (by rfl) T.z_zip (pd_v 0) (pd_v 5)))
  (pssd_one (psd_ext (i := 4) (by decide) (pv 4) (PD.frz (pd_lc (own := [("shift", 7)]) rfl nd (pid_r1 (by rfl) T.z_range (PD.rl (pd_v 3))) (blkOk_by (by kernel_rfl)) (fun _ _ _ _ _ => (pgd_name (i := 7) rfl nd rfl (by first | exact Or.inl rfl | exact Or.inr rfl))) (fun _ _ _ _ _ => (ptsd_one (ptd_val (PD.rl (pd_callD T.fits g_fits (hr.mono (by decide)) takes0 (pad_cons (pd_v 6) (pad_cons (pd_tup (pad_cons (pd_v 3) (pad_cons (pd_v 7) pad_nil))) pad_nil)) (aC_len (aC_len aN_len))))))) (fun _ _ _ _ _ => (PD.frz (pd_op op_addA ok_add (PD.rl (pd_v 5)) (PD.rl (pd_tup (pad_cons (pd_v 7) pad_nil)))))) (by decide)))))))
  (pssd_one (psd_weak (O' := []) (O1 := []) (O2 := []) (psd_set (i := 1) rfl nd rfl (by first | exact Or.inl rfl | exact Or.inr rfl) (pd_v 4)))))))
  (pssd_one (psd_ret (pd_v 1)))))
theorem ok_check_both (T : Txt K mg) (g_check_periods : FnOk P w K mg base (L2.CX P w) 2 T.check_periods.fa T.check_periods.fd ["value"] (spD K mg 1 PP.d_check_periods)) (g_check_product : FnOk P w K mg base (L2.CX P w) 1 T.check_product.fa T.check_product.fd ["periods"] (spD K mg 1 PP.d_check_product)) : FnOk P w K mg base (L2.CX P w) 3 T.check_both.fa T.check_both.fd ["periods"] (spD K mg 1 PP.d_check_both) := by
  refine fn_ok (m := 0) (O' := []) T.check_both.F sc_check_both rfl fun cdv A outer sh H E hr => ?_
  have nd := sc_check_both.nd
  have tk : Takes (cxOf (L2.CX P w) P w K mg base ["periods"] "check_both" (defScope t_check_both) T.check_both.fa cdv A outer sh H E) (fun cls d _ H => E cls d H) := takes_of rfl rfl rfl rfl
  have hp : PassesOwn (model P w) (cxOf (L2.CX P w) P w K mg base ["periods"] "check_both" (defScope t_check_both) T.check_both.fa cdv A outer sh H E).A (cxOf (L2.CX P w) P w K mg base ["periods"] "check_both" (defScope t_check_both) T.check_both.fa cdv A outer sh H E).env (cxOf (L2.CX P w) P w K mg base ["periods"] "check_both" (defScope t_check_both) T.check_both.fa cdv A outer sh H E).xe := passes_of rfl
  unfold PP.s_check_both
  exact (pssd_cons (psd_drop (PD.rl (pd_callD T.check_periods g_check_periods (hr.mono (by decide)) tk (pad_cons (pd_v 0) pad_nil) (aC_len aN_len))))
  (pssd_one (psd_drop (PD.rl (pd_callD T.check_product g_check_product (hr.mono (by decide)) tk (pad_cons (pd_v 0) pad_nil) (aC_len aN_len))))))
theorem ok_good_shifts (T : Txt K mg) (g_check_both : FnOk P w K mg base (L2.CX P w) 3 T.check_both.fa T.check_both.fd ["periods"] (spD K mg 1 PP.d_check_both)) (g_all_good : FnOk P w K mg base (L2.CX P w) 4 T.all_good.fa T.all_good.fd ["periods"] (spD K mg 1 PP.d_all_good)) : FnOk P w K mg base (L2.CX P w) 5 T.good_shifts.fa T.good_shifts.fd ["periods"] (spD K mg 1 PP.d_good_shifts) := by
  refine fn_ok (m := 1) (O' := []) T.good_shifts.F sc_good_shifts rfl fun cdv A outer sh H E hr => ?_
  have nd := sc_good_shifts.nd
  have tk : Takes (cxOf (L2.CX P w) P w K mg base ["periods", "found"] "good_shifts" (defScope t_good_shifts) T.good_shifts.fa cdv A outer sh H E) (fun cls d _ H => E cls d H) := takes_of rfl rfl rfl rfl
  have hp : PassesOwn (model P w) (cxOf (L2.CX P w) P w K mg base ["periods", "found"] "good_shifts" (defScope t_good_shifts) T.good_shifts.fa cdv A outer sh H E).A (cxOf (L2.CX P w) P w K mg base ["periods", "found"] "good_shifts" (defScope t_good_shifts) T.good_shifts.fa cdv A outer sh H E).env (cxOf (L2.CX P w) P w K mg base ["periods", "found"] "good_shifts" (defScope t_good_shifts) T.good_shifts.fa cdv A outer sh H E).xe := passes_of rfl
  unfold PP.s_good_shifts
  exact (pssd_cons (psd_drop (PD.rl (pd_callD T.check_both g_check_both (hr.mono (by decide)) tk (pad_cons (pd_v 0) pad_nil) (aC_len aN_len))))
  (pssd_cons (psd_set (i := 1) rfl nd rfl (by first | exact Or.inl rfl | exact Or.inr rfl) (pd_callD T.all_good g_all_good (hr.mono (by decide)) tk (pad_cons (pd_v 0) pad_nil) (aC_len aN_len)))
  (pssd_one (psd_ret (pd_if (ptd_cmp (op_neD hr.units) ok_ne (PD.rl (pd_v 1)) (PD.fl (pd_lst pad_nil)) (nomark _)) (pd_idx (PD.rl (pd_v 1)) (PD.rl pd_int)) pd_non)))))
theorem ok_count_good (T : Txt K mg) (g_check_both : FnOk P w K mg base (L2.CX P w) 3 T.check_both.fa T.check_both.fd ["periods"] (spD K mg 1 PP.d_check_both)) (g_all_good : FnOk P w K mg base (L2.CX P w) 4 T.all_good.fa T.all_good.fd ["periods"] (spD K mg 1 PP.d_all_good)) : FnOk P w K mg base (L2.CX P w) 5 T.count_good.fa T.count_good.fd ["periods"] (spD K mg 1 PP.d_count_good) := by
  refine fn_ok (m := 0) (O' := []) T.count_good.F sc_count_good rfl fun cdv A outer sh H E hr => ?_
  have nd := sc_count_good.nd
  have tk : Takes (cxOf (L2.CX P w) P w K mg base ["periods"] "count_good" (defScope t_count_good) T.count_good.fa cdv A outer sh H E) (fun cls d _ H => E cls d H) := takes_of rfl rfl rfl rfl
  have hp : PassesOwn (model P w) (cxOf (L2.CX P w) P w K mg base ["periods"] "count_good" (defScope t_count_good) T.count_good.fa cdv A outer sh H E).A (cxOf (L2.CX P w) P w K mg base ["periods"] "count_good" (defScope t_count_good) T.count_good.fa cdv A outer sh H E).env (cxOf (L2.CX P w) P w K mg base ["periods"] "count_good" (defScope t_count_good) T.count_good.fa cdv A outer sh H E).xe := passes_of rfl
  unfold PP.s_count_good
  exact (pssd_cons (psd_drop (PD.rl (pd_callD T.check_both g_check_both (hr.mono (by decide)) tk (pad_cons (pd_v 0) pad_nil) (aC_len aN_len))))
  (pssd_one (psd_ret (PD.frz (pd_callB call_len ok_len (by rfl) T.z_len (by decide +kernel) (pad_consL (PD.rl (pd_callD T.all_good g_all_good (hr.mono (by decide)) tk (pad_cons (pd_v 0) pad_nil) (aC_len aN_len))) pad_nil))))))
theorem ok__law_heard (T : Txt K mg) : FnOk P w K mg base (L2.CX P w) 1 T._law_heard.fa T._law_heard.fd ["_law_row", "_law_time"] (spD K mg 2 PP.d__law_heard) := by
  refine fn_ok (m := 1) (O' := []) T._law_heard.F sc__law_heard rfl fun cdv A outer sh H E hr => ?_
  have nd := sc__law_heard.nd
  have tk : Takes (cxOf (L2.CX P w) P w K mg base ["_law_row", "_law_time", "_law_i"] "_law_heard" (defScope t__law_heard) T._law_heard.fa cdv A outer sh H E) (fun cls d _ H => E cls d H) := takes_of rfl rfl rfl rfl
  have hp : PassesOwn (model P w) (cxOf (L2.CX P w) P w K mg base ["_law_row", "_law_time", "_law_i"] "_law_heard" (defScope t__law_heard) T._law_heard.fa cdv A outer sh H E).A (cxOf (L2.CX P w) P w K mg base ["_law_row", "_law_time", "_law_i"] "_law_heard" (defScope t__law_heard) T._law_heard.fa cdv A outer sh H E).env (cxOf (L2.CX P w) P w K mg base ["_law_row", "_law_time", "_law_i"] "_law_heard" (defScope t__law_heard) T._law_heard.fa cdv A outer sh H E).xe := passes_of rfl
  unfold PP.s__law_heard
  exact (pssd_one (psd_ret (PD.frz (pd_lc (own := [("_law_i", 2)]) rfl nd (pid_r1 (by rfl) T.z_range (PD.fl (pd_callB call_len ok_len (by rfl) T.z_len (by decide +kernel) (pad_consL (PD.rl (pd_v 0)) pad_nil)))) (blkOk_by (by kernel_rfl)) (fun _ _ _ _ _ => (pgd_name (i := 2) rfl nd rfl (by first | exact Or.inl rfl | exact Or.inr rfl))) (fun _ _ _ _ _ => (ptsd_one (ptd_cmp (op_eqD hr.units) ok_eq (PD.fl (pd_op op_mod ok_mod (PD.rl (pd_v 1)) (PD.rl (pd_idx (PD.rl (pd_idx (PD.rl (pd_v 0)) (PD.rl (pd_v 2)))) (PD.rl pd_int))))) (PD.rl (pd_idx (PD.rl (pd_idx (PD.rl (pd_v 0)) (PD.rl (pd_v 2)))) (PD.rl pd_int))) (nomark _)))) (fun _ _ _ _ _ => (pd_v 2)) (by decide)))))
theorem ok__law_cycle (T : Txt K mg) : FnOk P w K mg base (L2.CX P w) 1 T._law_cycle.fa T._law_cycle.fd ["_law_row"] (spD K mg 1 PP.d__law_cycle) := by
  refine fn_ok (m := 4) (O' := []) T._law_cycle.F sc__law_cycle rfl fun cdv A outer sh H E hr => ?_
  have nd := sc__law_cycle.nd
  have tk : Takes (cxOf (L2.CX P w) P w K mg base ["_law_row", "_law_period", "_law_one", "_law_shift", "_law_more"] "_law_cycle" (defScope t__law_cycle) T._law_cycle.fa cdv A outer sh H E) (fun cls d _ H => E cls d H) := takes_of rfl rfl rfl rfl
  have hp : PassesOwn (model P w) (cxOf (L2.CX P w) P w K mg base ["_law_row", "_law_period", "_law_one", "_law_shift", "_law_more"] "_law_cycle" (defScope t__law_cycle) T._law_cycle.fa cdv A outer sh H E).A (cxOf (L2.CX P w) P w K mg base ["_law_row", "_law_period", "_law_one", "_law_shift", "_law_more"] "_law_cycle" (defScope t__law_cycle) T._law_cycle.fa cdv A outer sh H E).env (cxOf (L2.CX P w) P w K mg base ["_law_row", "_law_period", "_law_one", "_law_shift", "_law_more"] "_law_cycle" (defScope t__law_cycle) T._law_cycle.fa cdv A outer sh H E).xe := passes_of rfl
  unfold PP.s__law_cycle PP.b__law_cycle_2 PP.b__law_cycle_1
  exact (pssd_cons (psd_set (i := 1) rfl nd rfl (by first | exact Or.inl rfl | exact Or.inr rfl) pd_int)
  (pssd_cons (psd_for hp rfl (pid_seq (pd_v 0)) (pgd_tup rfl (pgd_cons (pgd_name (i := 2) rfl nd rfl (by first | exact Or.inl rfl | exact Or.inr rfl)) (pgd_cons (pgd_name (i := 3) rfl nd rfl (by first | exact Or.inl rfl | exact Or.inr rfl)) pgd_nil)) (gsC_len (gsC_len gs0_len))) (gok_tup (gok_cons (gok_name (i := 2)) (gok_cons (gok_name (i := 3)) gok_nil))) (by decide)
    (pssd_cons (psd_set (i := 4) rfl nd rfl (by first | exact Or.inl rfl | exact Or.inr rfl) (pd_v 1))
  (pssd_cons (psd_while hp (ptd_cmp (op_neD hr.units) ok_ne (PD.fl (pd_op op_mod ok_mod (PD.rl (pd_v 4)) (PD.rl (pd_v 2)))) (PD.rl pd_int) (nomark _))
    (pssd_one (psd_set (i := 4) rfl nd rfl (by first | exact Or.inl rfl | exact Or.inr rfl) (PD.frz (pd_op op_addA ok_add (PD.rl (pd_v 4)) (PD.rl (pd_v 1)))))))
  (pssd_one (psd_set (i := 1) rfl nd rfl (by first | exact Or.inl rfl | exact Or.inr rfl) (pd_v 4))))))
  (pssd_one (psd_ret (pd_v 1)))))
theorem ok__law_pick (T : Txt K mg) : FnOk P w K mg base (L2.CX P w) 1 T._law_pick.fa T._law_pick.fd ["_law_script", "_law_k", "_law_many"] (spD K mg 3 PP.d__law_pick) := by
  refine fn_ok (m := 4) (O' := []) T._law_pick.F sc__law_pick rfl fun cdv A outer sh H E hr => ?_
  have nd := sc__law_pick.nd
  have tk : Takes (cxOf (L2.CX P w) P w K mg base ["_law_script", "_law_k", "_law_many", "_law_cell", "_law_rest", "_law_again", "_law_drawn"] "_law_pick" (defScope t__law_pick) T._law_pick.fa cdv A outer sh H E) (fun cls d _ H => E cls d H) := takes_of rfl rfl rfl rfl
  have hp : PassesOwn (model P w) (cxOf (L2.CX P w) P w K mg base ["_law_script", "_law_k", "_law_many", "_law_cell", "_law_rest", "_law_again", "_law_drawn"] "_law_pick" (defScope t__law_pick) T._law_pick.fa cdv A outer sh H E).A (cxOf (L2.CX P w) P w K mg base ["_law_script", "_law_k", "_law_many", "_law_cell", "_law_rest", "_law_again", "_law_drawn"] "_law_pick" (defScope t__law_pick) T._law_pick.fa cdv A outer sh H E).env (cxOf (L2.CX P w) P w K mg base ["_law_script", "_law_k", "_law_many", "_law_cell", "_law_rest", "_law_again", "_law_drawn"] "_law_pick" (defScope t__law_pick) T._law_pick.fa cdv A outer sh H E).xe := passes_of rfl
  unfold PP.s__law_pick PP.b__law_pick_1
  exact (pssd_cons (psd_set (i := 3) rfl nd rfl (by first | exact Or.inl rfl | exact Or.inr rfl) (pd_if (ptd_cmp (op_neD hr.units) ok_ne (PD.rl (pd_v 0)) (PD.fl (pd_lst pad_nil)) (nomark _)) (pd_idx (PD.rl (pd_v 0)) (PD.fl (pd_op op_mod ok_mod (PD.rl (pd_v 1)) (PD.fl (pd_callB call_len ok_len (by rfl) T.z_len (by decide +kernel) (pad_consL (PD.rl (pd_v 0)) pad_nil)))))) pd_int))
  (pssd_cons (psd_par (bi := false) (bj := false) (i := 4) (j := 5) rfl rfl rfl nd rfl rfl (by decide) rfl rfl (PD.frz (pd_op op_fdivW ok_fdiv (PD.rl (pd_v 3)) (PD.fl (pd_op op_pow ok_pow (PD.rl pd_int) (PD.rl pd_int))))) (PD.frz (pd_op op_fdivW ok_fdiv (PD.rl (pd_v 1)) (PD.fl (pd_callB (call_max2 rfl) ok_max2 (by rfl) T.z_max (by decide +kernel) (pad_consL (PD.fl (pd_callB call_len ok_len (by rfl) T.z_len (by decide +kernel) (pad_consL (PD.rl (pd_v 0)) pad_nil))) (pad_consL (PD.rl pd_int) pad_nil)))))))
  (pssd_cons (psd_while hp (PWD.pt (ptd_and (ptd_cmp op_gt (ok_cmp : Ok2 _ _ _ D.gt) (PD.rl (pd_v 4)) (PD.rl pd_int) (nomark _)) (ptd_and1 (ptd_cmp op_gt (ok_cmp : Ok2 _ _ _ D.gt) (PD.rl (pd_v 5)) (PD.rl pd_int) (nomark _)))))
    (pssd_one (psd_par (bi := false) (bj := false) (i := 4) (j := 5) rfl rfl rfl nd rfl rfl (by decide) rfl rfl (PD.frz (pd_op op_fdivW ok_fdiv (PD.rl (pd_v 4)) (PD.rl pd_int))) (PD.frz (pd_op op_sub ok_sub (PD.rl (pd_v 5)) (PD.rl pd_int))))))
  (pssd_cons (psd_if (ptd_cmp op_gt (ok_cmp : Ok2 _ _ _ D.gt) (PD.rl (pd_v 4)) (PD.rl pd_int) (nomark _))
    (pssd_one (psd_ret (PD.frz (pd_op op_mod ok_mod (PD.fl (pd_op op_mod ok_mod (PD.rl (pd_v 4)) (PD.rl pd_int))) (PD.rl (pd_v 2))))))
    pssd_nil)
  (pssd_cons (psd_set (i := 6) rfl nd rfl (by first | exact Or.inl rfl | exact Or.inr rfl) (PD.frz (pd_op op_mod ok_mod (PD.fl (pd_op op_mulA ok_mul (PD.fl (pd_op op_addA ok_add (PD.fl (pd_op op_mulA ok_mul (PD.rl (pd_v 3)) (PD.rl pd_int))) (PD.fl (pd_op op_mulA ok_mul (PD.rl pd_int) (PD.fl (pd_op op_addA ok_add (PD.rl (pd_v 1)) (PD.rl pd_int))))))) (PD.rl pd_int))) (PD.rl pd_int))))
  (pssd_one (psd_ret (PD.frz (pd_op op_mod ok_mod (PD.fl (pd_op op_mod ok_mod (PD.fl (pd_op op_addA ok_add (PD.fl (pd_op op_mulA ok_mul (PD.rl (pd_v 6)) (PD.rl (pd_v 6)))) (PD.fl (pd_op op_fdivW ok_fdiv (PD.rl (pd_v 6)) (PD.rl pd_int))))) (PD.rl pd_int))) (PD.rl (pd_v 2)))))))))))
theorem ok__law_apart (T : Txt K mg) (g__law_cycle : FnOk P w K mg base (L2.CX P w) 1 T._law_cycle.fa T._law_cycle.fd ["_law_row"] (spD K mg 1 PP.d__law_cycle)) (g__law_heard : FnOk P w K mg base (L2.CX P w) 1 T._law_heard.fa T._law_heard.fd ["_law_row", "_law_time"] (spD K mg 2 PP.d__law_heard)) : FnOk P w K mg base (L2.CX P w) 2 T._law_apart.fa T._law_apart.fd ["_law_periods", "_law_shifts"] (spD K mg 2 d__law_apart) := by
  refine fn_ok (m := 2) (O' := []) T._law_apart.F sc__law_apart rfl fun cdv A outer sh H E hr => ?_
  have nd := sc__law_apart.nd
  have tk : Takes (cxOf (L2.CX P w) P w K mg base ["_law_periods", "_law_shifts", "_law_row", "_law_time"] "_law_apart" (defScope t__law_apart) T._law_apart.fa cdv A outer sh H E) (fun cls d _ H => E cls d H) := takes_of rfl rfl rfl rfl
  have hp : PassesOwn (model P w) (cxOf (L2.CX P w) P w K mg base ["_law_periods", "_law_shifts", "_law_row", "_law_time"] "_law_apart" (defScope t__law_apart) T._law_apart.fa cdv A outer sh H E).A (cxOf (L2.CX P w) P w K mg base ["_law_periods", "_law_shifts", "_law_row", "_law_time"] "_law_apart" (defScope t__law_apart) T._law_apart.fa cdv A outer sh H E).env (cxOf (L2.CX P w) P w K mg base ["_law_periods", "_law_shifts", "_law_row", "_law_time"] "_law_apart" (defScope t__law_apart) T._law_apart.fa cdv A outer sh H E).xe := passes_of rfl
  unfold s__law_apart
  exact (pssd_cons (psd_set (i := 2) rfl nd rfl (by first | exact Or.inl rfl | exact Or.inr rfl) (pd_tupZip (by rfl) T.z_tuple (by rfl) T.z_zip (pd_v 0) (pd_v 1)))
  (pssd_one (psd_ret (PD.frz (pd_not (PD.fl (pd_callB (cr_any rfl) ok_any (by rfl) T.z_any (by decide +kernel) (pad_consL (PD.fl (pd_lc (own := [("_law_time", 3)]) rfl nd (pid_r1 (by rfl) T.z_range (PD.rl (pd_callD T._law_cycle g__law_cycle (hr.mono (by decide)) tk (pad_cons (pd_v 2) pad_nil) (aC_len aN_len)))) (blkOk_by (by kernel_rfl)) (fun _ _ _ _ _ => (pgd_name (i := 3) rfl nd rfl (by first | exact Or.inl rfl | exact Or.inr rfl))) (fun _ _ _ _ _ => ptsd_nil) (fun _ _ _ _ _ => (PD.frz (pd_cmp op_gt (ok_cmp : Ok2 _ _ _ D.gt) (PD.fl (pd_callB call_len ok_len (by rfl) T.z_len (by decide +kernel) (pad_consL (PD.rl (pd_callD T._law_heard g__law_heard (hr.mono (by decide)) takes0 (pad_cons (pd_v 2) (pad_cons (pd_v 3) pad_nil)) (aC_len (aC_len aN_len)))) pad_nil))) (PD.rl pd_int) (nomark _)))) (by decide))) pad_nil))))))))
theorem ok_law (T : Txt K mg) (g__law_pick : FnOk P w K mg base (L2.CX P w) 1 T._law_pick.fa T._law_pick.fd ["_law_script", "_law_k", "_law_many"] (spD K mg 3 PP.d__law_pick)) (g__law_apart : FnOk P w K mg base (L2.CX P w) 2 T._law_apart.fa T._law_apart.fd ["_law_periods", "_law_shifts"] (spD K mg 2 d__law_apart)) (g_count_good : FnOk P w K mg base (L2.CX P w) 5 T.count_good.fa T.count_good.fd ["periods"] (spD K mg 1 PP.d_count_good)) (g_good_shifts : FnOk P w K mg base (L2.CX P w) 5 T.good_shifts.fa T.good_shifts.fd ["periods"] (spD K mg 1 PP.d_good_shifts)) (g_are_good : FnOk P w K mg base (L2.CX P w) 4 T.are_good.fa T.are_good.fd ["periods", "candidate"] (spD K mg 2 PP.d_are_good)) : FnOk P w K mg base (L2.CX P w) 6 T.law.fa T.law.fd ["_law_script"] (spD K mg 1 d_law) := by
  refine fn_ok (m := 12) (O' := []) T.law.F sc_law rfl fun cdv A outer sh H E hr => ?_
  have nd := sc_law.nd
  have tk : Takes (cxOf (L2.CX P w) P w K mg base ["_law_script", "_law_i", "_law_periods", "_law_most", "_law_j", "_law_period", "_law_every", "_law_longer", "_law_some", "_law_good", "_law_bad", "_law_shift", "_law_value"] "law" (defScope t_law) T.law.fa cdv A outer sh H E) (fun cls d _ H => E cls d H) := takes_of rfl rfl rfl rfl
  have hp : PassesOwn (model P w) (cxOf (L2.CX P w) P w K mg base ["_law_script", "_law_i", "_law_periods", "_law_most", "_law_j", "_law_period", "_law_every", "_law_longer", "_law_some", "_law_good", "_law_bad", "_law_shift", "_law_value"] "law" (defScope t_law) T.law.fa cdv A outer sh H E).A (cxOf (L2.CX P w) P w K mg base ["_law_script", "_law_i", "_law_periods", "_law_most", "_law_j", "_law_period", "_law_every", "_law_longer", "_law_some", "_law_good", "_law_bad", "_law_shift", "_law_value"] "law" (defScope t_law) T.law.fa cdv A outer sh H E).env (cxOf (L2.CX P w) P w K mg base ["_law_script", "_law_i", "_law_periods", "_law_most", "_law_j", "_law_period", "_law_every", "_law_longer", "_law_some", "_law_good", "_law_bad", "_law_shift", "_law_value"] "law" (defScope t_law) T.law.fa cdv A outer sh H E).xe := passes_of rfl
  unfold s_law b_law_5 b_law_4 b_law_3 b_law_2 b_law_1
  exact (pssd_cons (psd_for hp rfl (pid_r1 (by rfl) T.z_range (PD.rl pd_int)) (pgd_name (i := 1) rfl nd rfl (by first | exact Or.inl rfl | exact Or.inr rfl)) (gok_name (i := 1)) (by decide)
    (pssd_cons (psd_parC (i := 2) (j := 3) rfl rfl rfl nd rfl rfl (by decide) (by first | exact Or.inl rfl | exact Or.inr rfl) (by first | exact Or.inl rfl | exact Or.inr rfl) (by first | exact Or.inl rfl | exact Or.inr rfl) (by first | exact Or.inl rfl | exact Or.inr rfl) (pd_lst pad_nil) pd_int)
  (pssd_cons (psd_for hp rfl (pid_r1 (by rfl) T.z_range (PD.rl (pd_callD T._law_pick g__law_pick (hr.mono (by decide)) tk (pad_cons (pd_v 0) (pad_cons (PD.frz (pd_op op_mulA ok_mul (PD.rl pd_int) (PD.rl (pd_v 1)))) (pad_cons pd_int pad_nil))) (aC_len (aC_len (aC_len aN_len)))))) (pgd_name (i := 4) rfl nd rfl (by first | exact Or.inl rfl | exact Or.inr rfl)) (gok_name (i := 4)) (by decide)
    (pssd_cons (psd_set (i := 5) rfl nd rfl (by first | exact Or.inl rfl | exact Or.inr rfl) (pd_idx (PD.rl (pd_tup (pad_cons pd_int (pad_cons pd_int (pad_cons pd_int (pad_cons pd_int (pad_cons pd_int (pad_cons pd_int (pad_cons pd_int pad_nil))))))))) (PD.rl (pd_callD T._law_pick g__law_pick (hr.mono (by decide)) tk (pad_cons (pd_v 0) (pad_cons (PD.frz (pd_op op_addA ok_add (PD.fl (pd_op op_addA ok_add (PD.fl (pd_op op_mulA ok_mul (PD.rl pd_int) (PD.rl (pd_v 1)))) (PD.rl pd_int))) (PD.rl (pd_v 4)))) (pad_cons pd_int pad_nil))) (aC_len (aC_len (aC_len aN_len)))))))
  (pssd_one (psd_if (ptd_cmp op_le (ok_cmp : Ok2 _ _ _ D.le) (PD.fl (pd_op op_mulA ok_mul (PD.rl (pd_v 3)) (PD.rl (pd_v 5)))) (PD.rl pd_int) (nomark _))
    (pssd_cons (psd_app (i := 2) (by decide) (pv 2) (pd_v 5))
  (pssd_one (psd_set (i := 3) rfl nd rfl (by first | exact Or.inl rfl | exact Or.inr rfl) (PD.frz (pd_op op_mulA ok_mul (PD.rl (pd_v 3)) (PD.rl (pd_v 5)))))))
    pssd_nil))))
  (pssd_cons (psd_weak (O' := []) (O1 := []) (O2 := []) (psd_set (i := 2) rfl nd rfl (by first | exact Or.inl rfl | exact Or.inr rfl) (PD.frz (pd_callT call_tuple_of ok_tuple (by rfl) T.z_tuple (by decide +kernel) (pad_consL (PD.rl (pd_v 2)) pad_nil)))))
  (pssd_cons (psd_set (i := 6) rfl nd rfl (by first | exact Or.inl rfl | exact Or.inr rfl) (PD.frz (pd_lst (pad_cons (pd_tup pad_nil) pad_nil))))
  (pssd_cons (psd_for hp rfl (pid_seq (pd_v 2)) (pgd_name (i := 5) rfl nd rfl (by first | exact Or.inl rfl | exact Or.inr rfl)) (gok_name (i := 5)) (by decide)
    (pssd_cons (psd_setO (i := 7) rfl nd rfl (by first | exact Or.inl rfl | exact Or.inr rfl) (pd_lst pad_nil))
  (pssd_cons (psd_for hp rfl (pid_seq (pd_v 6)) (pgd_name (i := 8) rfl nd rfl (by first | exact Or.inl rfl | exact Or.inr rfl)) (gok_name (i := 8)) (by decide)
    (pssd_one (psd_ext (i := 7) (by decide) (pv 7) (PD.frz (pd_lc (own := [("_law_shift", 11)]) rfl nd (pid_r1 (by rfl) T.z_range (PD.rl (pd_v 5))) (blkOk_by (by kernel_rfl)) (fun _ _ _ _ _ => (pgd_name (i := 11) rfl nd rfl (by first | exact Or.inl rfl | exact Or.inr rfl))) (fun _ _ _ _ _ => ptsd_nil) (fun _ _ _ _ _ => (PD.frz (pd_op op_addA ok_add (PD.rl (pd_v 8)) (PD.rl (pd_tup (pad_cons (pd_v 11) pad_nil)))))) (by decide))))))
  (pssd_one (psd_weak (O' := []) (O1 := []) (O2 := []) (psd_set (i := 6) rfl nd rfl (by first | exact Or.inl rfl | exact Or.inr rfl) (pd_v 7)))))))
  (pssd_cons (psd_setLc (i := 9) (own := [("_law_some", 8)]) rfl rfl nd rfl rfl (sw_true rfl rfl rfl (by decide +kernel)) (pid_seq (pd_v 6)) (blkOk_by (by kernel_rfl)) (fun _ _ _ _ _ => (pgd_name (i := 8) rfl nd rfl (by first | exact Or.inl rfl | exact Or.inr rfl))) (fun _ _ _ _ _ => (ptsd_one (ptd_val (PD.rl (pd_callD T._law_apart g__law_apart (hr.mono (by decide)) takes0 (pad_cons (pd_v 2) (pad_cons (pd_v 8) pad_nil)) (aC_len (aC_len aN_len))))))) (fun _ _ _ _ _ => (pd_v 8)) (by decide))
  (pssd_cons (psd_if (PWD.pt (ptd_or (ptd_cmp (op_neD hr.units) ok_ne (PD.rl (pd_callD T.good_shifts g_good_shifts (hr.mono (by decide)) tk (pad_cons (pd_v 2) pad_nil) (aC_len aN_len))) (pd_if (ptd_cmp (op_neD hr.units) ok_ne (PD.rl (pd_v 9)) (PD.fl (pd_lst pad_nil)) (nomark _)) (PD.rl (pd_idx (PD.rl (pd_v 9)) (PD.rl pd_int))) (PD.rl pd_non)) (nomark _)) (ptd_or1 (ptd_cmp (op_neD hr.units) ok_ne (PD.rl (pd_callD T.count_good g_count_good (hr.mono (by decide)) tk (pad_cons (pd_v 2) pad_nil) (aC_len aN_len))) (PD.fl (pd_callB call_len ok_len (by rfl) T.z_len (by decide +kernel) (pad_consL (PD.rl (pd_v 9)) pad_nil))) (nomark _)))))
    (pssd_one (psd_ret pd_bl))
    pssd_nil)
  (pssd_cons (psd_for hp rfl (pid_seq (PD.frz (pd_op op_addA ok_add (PD.fl (pd_slice (PD.rl (pd_v 6)) pod_none (pod_some (PD.rl pd_int)))) (PD.fl (pd_slice (PD.rl (pd_v 6)) (pod_some (PD.fl (pd_un un_neg ok_neg (PD.rl pd_int)))) pod_none))))) (pgd_name (i := 8) rfl nd rfl (by first | exact Or.inl rfl | exact Or.inr rfl)) (gok_name (i := 8)) (by decide)
    (pssd_one (psd_if (ptd_cmp (op_neD hr.units) ok_ne (PD.rl (pd_callD T.are_good g_are_good (hr.mono (by decide)) tk (pad_cons (pd_v 2) (pad_cons (pd_v 8) pad_nil)) (aC_len (aC_len aN_len)))) (PD.fl (pd_cmp (op_inD (Room65 hr)) ok_inT (PD.rl (pd_v 8)) (PD.rl (pd_v 9)) (by rfl))) (nomark _))
    (pssd_one (psd_ret pd_bl))
    pssd_nil)))
  (pssd_cons (psd_setO (i := 10) rfl nd rfl (by first | exact Or.inl rfl | exact Or.inr rfl) (pd_lst (pad_cons pd_non (pad_cons (pd_if (ptd_cmp (op_neD hr.units) ok_ne (PD.rl (pd_v 9)) (PD.fl (pd_lst pad_nil)) (nomark _)) (PD.frz (pd_callT call_list_of ok_list (by rfl) T.z_list (by decide +kernel) (pad_consL (PD.rl (pd_idx (PD.rl (pd_v 9)) (PD.rl pd_int))) pad_nil))) pd_int) (pad_cons (PD.frz (pd_op op_mulA ok_mul (PD.rl (pd_tup (pad_cons pd_int pad_nil))) (PD.rl pd_int))) (pad_cons (PD.frz (pd_op op_addA ok_add (PD.fl (pd_callT call_tuple_of ok_tuple (by rfl) T.z_tuple (by decide +kernel) (pad_consL (PD.fl (pd_lc (own := [("_law_period", 5)]) rfl nd (pid_seq (pd_v 2)) (blkOk_by (by kernel_rfl)) (fun _ _ _ _ _ => (pgd_name (i := 5) rfl nd rfl (by first | exact Or.inl rfl | exact Or.inr rfl))) (fun _ _ _ _ _ => ptsd_nil) (fun _ _ _ _ _ => (PD.frz (pd_op op_sub ok_sub (PD.rl pd_int) (PD.rl pd_int)))) (by decide))) pad_nil))) (PD.rl (pd_tup (pad_cons pd_int pad_nil))))) (pad_cons pd_str pad_nil)))))))
  (pssd_cons (psd_app (i := 10) (by decide) (pv 10) (pd_if (ptd_cmp (op_neD hr.units) ok_ne (PD.rl (pd_v 2)) (PD.rl (pd_tup pad_nil)) (nomark _)) (PD.frz (pd_callT call_tuple_of ok_tuple (by rfl) T.z_tuple (by decide +kernel) (pad_consL (PD.fl (pd_callT call_list_of ok_list (by rfl) T.z_list (by decide +kernel) (pad_consL (PD.rl (pd_v 2)) pad_nil))) pad_nil))) (pd_tup (pad_cons pd_int pad_nil))))
  (pssd_one (psd_weak (O' := []) (O1 := []) (O2 := []) (psd_if (ptd_val (PD.fl (pd_callB (cr_any rfl) ok_any (by rfl) T.z_any (by decide +kernel) (pad_consL (PD.fl (pd_lc (own := [("_law_value", 12)]) rfl nd (pid_seq (pd_v 10)) (blkOk_by (by kernel_rfl)) (fun _ _ _ _ _ => (pgd_name (i := 12) rfl nd rfl (by first | exact Or.inl rfl | exact Or.inr rfl))) (fun _ _ _ _ _ => ptsd_nil) (fun _ _ _ _ _ => (PD.frz (pd_cmp op_notBl ok_isNotB (PD.rl (pd_callD T.are_good g_are_good (hr.mono (by decide)) takes0 (pad_cons (pd_v 2) (pad_cons (pd_v 12) pad_nil)) (aC_len (aC_len aN_len)))) (PD.rl pd_bl) (nomark _)))) (by decide))) pad_nil))))
    (pssd_one (psd_ret pd_bl))
    pssd_nil))))))))))))))
  (pssd_one (psd_ret (pd_and (PD.fl (pd_cmp op_isBl ok_isB (PD.rl (pd_callD T.are_good g_are_good (hr.mono (by decide)) tk (pad_cons (pd_tup (pad_cons pd_int pad_nil)) (pad_cons (pd_tup (pad_cons pd_bl pad_nil)) pad_nil)) (aC_len (aC_len aN_len)))) (PD.rl pd_bl) (nomark _))) (pd_and (PD.fl (pd_isN (PD.rl (pd_callD T.good_shifts g_good_shifts (hr.mono (by decide)) tk (pad_cons (pd_tup (pad_cons pd_int (pad_cons pd_int (pad_cons pd_int pad_nil)))) pad_nil) (aC_len aN_len))))) (pd_one (PD.frz (pd_cmp (op_eqD hr.units) ok_eq (PD.rl (pd_callD T.count_good g_count_good (hr.mono (by decide)) tk (pad_cons (pd_tup pad_nil) pad_nil) (aC_len aN_len))) (PD.rl pd_int) (nomark _)))))))))
end
theorem all_mk {P : Program} {w : World} {K : PySem.W.Frag} {h : Heap} {mg : Str → Option Value} {fa : Addr} (X : K.In h) (G : h.Ns mainGlobals mg) (hfa : mg "law" = some (.ref fa)) (t : ∀ ns : List Int, ns.length ≤ 63 → d_law [.scr ns] = .ok (.bl true))
    {f0 : Addr} {oc0 kV0 dc0 pm0 cd0 ct0 : Value} {od0 an0 : Option Addr} {sl0 : Array (Option Value)}
    (a0 : PySem.W.nsIn K mainGlobals "is_int" = some (some (.ref f0))) (l0 : K.lookup f0 = some ⟨oc0, od0, .func (PySem.W.fnOf "is_int" "is_int" (defArgs t_is_int) (defBody t_is_int) (defScope t_is_int) .none kV0 dc0 pm0 an0 cd0 ct0), sl0⟩) (c0 : PySem.W.codeIn K cd0 "is_int" = true) (k0 : PySem.W.keepIn K (.ref f0) = true)
    {f1 : Addr} {oc1 kV1 dc1 pm1 cd1 ct1 : Value} {od1 an1 : Option Addr} {sl1 : Array (Option Value)}
    (a1 : PySem.W.nsIn K mainGlobals "divisor" = some (some (.ref f1))) (l1 : K.lookup f1 = some ⟨oc1, od1, .func (PySem.W.fnOf "divisor" "divisor" (defArgs t_divisor) (defBody t_divisor) (defScope t_divisor) .none kV1 dc1 pm1 an1 cd1 ct1), sl1⟩) (c1 : PySem.W.codeIn K cd1 "divisor" = true) (k1 : PySem.W.keepIn K (.ref f1) = true)
    {f2 : Addr} {oc2 kV2 dc2 pm2 cd2 ct2 : Value} {od2 an2 : Option Addr} {sl2 : Array (Option Value)}
    (a2 : PySem.W.nsIn K mainGlobals "do_meet" = some (some (.ref f2))) (l2 : K.lookup f2 = some ⟨oc2, od2, .func (PySem.W.fnOf "do_meet" "do_meet" (defArgs t_do_meet) (defBody t_do_meet) (defScope t_do_meet) .none kV2 dc2 pm2 an2 cd2 ct2), sl2⟩) (c2 : PySem.W.codeIn K cd2 "do_meet" = true) (k2 : PySem.W.keepIn K (.ref f2) = true)
    {f3 : Addr} {oc3 kV3 dc3 pm3 cd3 ct3 : Value} {od3 an3 : Option Addr} {sl3 : Array (Option Value)}
    (a3 : PySem.W.nsIn K mainGlobals "check_periods" = some (some (.ref f3))) (l3 : K.lookup f3 = some ⟨oc3, od3, .func (PySem.W.fnOf "check_periods" "check_periods" (defArgs t_check_periods) (defBody t_check_periods) (defScope t_check_periods) .none kV3 dc3 pm3 an3 cd3 ct3), sl3⟩) (c3 : PySem.W.codeIn K cd3 "check_periods" = true) (k3 : PySem.W.keepIn K (.ref f3) = true)
    {f4 : Addr} {oc4 kV4 dc4 pm4 cd4 ct4 : Value} {od4 an4 : Option Addr} {sl4 : Array (Option Value)}
    (a4 : PySem.W.nsIn K mainGlobals "check_product" = some (some (.ref f4))) (l4 : K.lookup f4 = some ⟨oc4, od4, .func (PySem.W.fnOf "check_product" "check_product" (defArgs t_check_product) (defBody t_check_product) (defScope t_check_product) .none kV4 dc4 pm4 an4 cd4 ct4), sl4⟩) (c4 : PySem.W.codeIn K cd4 "check_product" = true) (k4 : PySem.W.keepIn K (.ref f4) = true)
    {f5 : Addr} {oc5 kV5 dc5 pm5 cd5 ct5 : Value} {od5 an5 : Option Addr} {sl5 : Array (Option Value)}
    (a5 : PySem.W.nsIn K mainGlobals "fits" = some (some (.ref f5))) (l5 : K.lookup f5 = some ⟨oc5, od5, .func (PySem.W.fnOf "fits" "fits" (defArgs t_fits) (defBody t_fits) (defScope t_fits) .none kV5 dc5 pm5 an5 cd5 ct5), sl5⟩) (c5 : PySem.W.codeIn K cd5 "fits" = true) (k5 : PySem.W.keepIn K (.ref f5) = true)
    {f6 : Addr} {oc6 kV6 dc6 pm6 cd6 ct6 : Value} {od6 an6 : Option Addr} {sl6 : Array (Option Value)}
    (a6 : PySem.W.nsIn K mainGlobals "are_good" = some (some (.ref f6))) (l6 : K.lookup f6 = some ⟨oc6, od6, .func (PySem.W.fnOf "are_good" "are_good" (defArgs t_are_good) (defBody t_are_good) (defScope t_are_good) .none kV6 dc6 pm6 an6 cd6 ct6), sl6⟩) (c6 : PySem.W.codeIn K cd6 "are_good" = true) (k6 : PySem.W.keepIn K (.ref f6) = true)
    {f7 : Addr} {oc7 kV7 dc7 pm7 cd7 ct7 : Value} {od7 an7 : Option Addr} {sl7 : Array (Option Value)}
    (a7 : PySem.W.nsIn K mainGlobals "all_good" = some (some (.ref f7))) (l7 : K.lookup f7 = some ⟨oc7, od7, .func (PySem.W.fnOf "all_good" "all_good" (defArgs t_all_good) (defBody t_all_good) (defScope t_all_good) .none kV7 dc7 pm7 an7 cd7 ct7), sl7⟩) (c7 : PySem.W.codeIn K cd7 "all_good" = true) (k7 : PySem.W.keepIn K (.ref f7) = true)
    {f8 : Addr} {oc8 kV8 dc8 pm8 cd8 ct8 : Value} {od8 an8 : Option Addr} {sl8 : Array (Option Value)}
    (a8 : PySem.W.nsIn K mainGlobals "check_both" = some (some (.ref f8))) (l8 : K.lookup f8 = some ⟨oc8, od8, .func (PySem.W.fnOf "check_both" "check_both" (defArgs t_check_both) (defBody t_check_both) (defScope t_check_both) .none kV8 dc8 pm8 an8 cd8 ct8), sl8⟩) (c8 : PySem.W.codeIn K cd8 "check_both" = true) (k8 : PySem.W.keepIn K (.ref f8) = true)
    {f9 : Addr} {oc9 kV9 dc9 pm9 cd9 ct9 : Value} {od9 an9 : Option Addr} {sl9 : Array (Option Value)}
    (a9 : PySem.W.nsIn K mainGlobals "good_shifts" = some (some (.ref f9))) (l9 : K.lookup f9 = some ⟨oc9, od9, .func (PySem.W.fnOf "good_shifts" "good_shifts" (defArgs t_good_shifts) (defBody t_good_shifts) (defScope t_good_shifts) .none kV9 dc9 pm9 an9 cd9 ct9), sl9⟩) (c9 : PySem.W.codeIn K cd9 "good_shifts" = true) (k9 : PySem.W.keepIn K (.ref f9) = true)
    {f10 : Addr} {oc10 kV10 dc10 pm10 cd10 ct10 : Value} {od10 an10 : Option Addr} {sl10 : Array (Option Value)}
    (a10 : PySem.W.nsIn K mainGlobals "count_good" = some (some (.ref f10))) (l10 : K.lookup f10 = some ⟨oc10, od10, .func (PySem.W.fnOf "count_good" "count_good" (defArgs t_count_good) (defBody t_count_good) (defScope t_count_good) .none kV10 dc10 pm10 an10 cd10 ct10), sl10⟩) (c10 : PySem.W.codeIn K cd10 "count_good" = true) (k10 : PySem.W.keepIn K (.ref f10) = true)
    {f11 : Addr} {oc11 kV11 dc11 pm11 cd11 ct11 : Value} {od11 an11 : Option Addr} {sl11 : Array (Option Value)}
    (a11 : PySem.W.nsIn K mainGlobals "_law_heard" = some (some (.ref f11))) (l11 : K.lookup f11 = some ⟨oc11, od11, .func (PySem.W.fnOf "_law_heard" "_law_heard" (defArgs t__law_heard) (defBody t__law_heard) (defScope t__law_heard) .none kV11 dc11 pm11 an11 cd11 ct11), sl11⟩) (c11 : PySem.W.codeIn K cd11 "_law_heard" = true) (k11 : PySem.W.keepIn K (.ref f11) = true)
    {f12 : Addr} {oc12 kV12 dc12 pm12 cd12 ct12 : Value} {od12 an12 : Option Addr} {sl12 : Array (Option Value)}
    (a12 : PySem.W.nsIn K mainGlobals "_law_cycle" = some (some (.ref f12))) (l12 : K.lookup f12 = some ⟨oc12, od12, .func (PySem.W.fnOf "_law_cycle" "_law_cycle" (defArgs t__law_cycle) (defBody t__law_cycle) (defScope t__law_cycle) .none kV12 dc12 pm12 an12 cd12 ct12), sl12⟩) (c12 : PySem.W.codeIn K cd12 "_law_cycle" = true) (k12 : PySem.W.keepIn K (.ref f12) = true)
    {f13 : Addr} {oc13 kV13 dc13 pm13 cd13 ct13 : Value} {od13 an13 : Option Addr} {sl13 : Array (Option Value)}
    (a13 : PySem.W.nsIn K mainGlobals "_law_pick" = some (some (.ref f13))) (l13 : K.lookup f13 = some ⟨oc13, od13, .func (PySem.W.fnOf "_law_pick" "_law_pick" (defArgs t__law_pick) (defBody t__law_pick) (defScope t__law_pick) .none kV13 dc13 pm13 an13 cd13 ct13), sl13⟩) (c13 : PySem.W.codeIn K cd13 "_law_pick" = true) (k13 : PySem.W.keepIn K (.ref f13) = true)
    {f14 : Addr} {oc14 kV14 dc14 pm14 cd14 ct14 : Value} {od14 an14 : Option Addr} {sl14 : Array (Option Value)}
    (a14 : PySem.W.nsIn K mainGlobals "_law_apart" = some (some (.ref f14))) (l14 : K.lookup f14 = some ⟨oc14, od14, .func (PySem.W.fnOf "_law_apart" "_law_apart" (defArgs t__law_apart) (defBody t__law_apart) (defScope t__law_apart) .none kV14 dc14 pm14 an14 cd14 ct14), sl14⟩) (c14 : PySem.W.codeIn K cd14 "_law_apart" = true) (k14 : PySem.W.keepIn K (.ref f14) = true)
    {f15 : Addr} {oc15 kV15 dc15 pm15 cd15 ct15 : Value} {od15 an15 : Option Addr} {sl15 : Array (Option Value)}
    (a15 : PySem.W.nsIn K mainGlobals "law" = some (some (.ref f15))) (l15 : K.lookup f15 = some ⟨oc15, od15, .func (PySem.W.fnOf "law" "law" (defArgs t_law) (defBody t_law) (defScope t_law) .none kV15 dc15 pm15 an15 cd15 ct15), sl15⟩) (c15 : PySem.W.codeIn K cd15 "law" = true) (k15 : PySem.W.keepIn K (.ref f15) = true)
    {C0 : Addr} (ea0 : PySem.W.nsIn K mainGlobals "InvalidPeriods" = some (some (.ref C0))) (ee0 : PySem.W.excIn K C0 [.type "ValueError", .type "Exception", .type "BaseException", .type "object"] "ValueError.__new__" = true) (ek0 : PySem.W.keepIn K (.ref C0) = true) (es0 : PySem.W.subIn K (.ref C0) (.type "BaseException") = some true) (et0 : PySem.W.typeIn K (.ref C0) = some (.type "type"))
    {C1 : Addr} (ea1 : PySem.W.nsIn K mainGlobals "TooLarge" = some (some (.ref C1))) (ee1 : PySem.W.excIn K C1 [.type "ValueError", .type "Exception", .type "BaseException", .type "object"] "ValueError.__new__" = true) (ek1 : PySem.W.keepIn K (.ref C1) = true) (es1 : PySem.W.subIn K (.ref C1) (.type "BaseException") = some true) (et1 : PySem.W.typeIn K (.ref C1) = some (.type "type"))
    (z0 : PySem.W.nsIn K mainGlobals "all" = some none)
    (z1 : PySem.W.nsIn K mainGlobals "any" = some none)
    (z2 : PySem.W.nsIn K mainGlobals "bool" = some none)
    (z3 : PySem.W.nsIn K mainGlobals "enumerate" = some none)
    (z4 : PySem.W.nsIn K mainGlobals "int" = some none)
    (z5 : PySem.W.nsIn K mainGlobals "isinstance" = some none)
    (z6 : PySem.W.nsIn K mainGlobals "len" = some none)
    (z7 : PySem.W.nsIn K mainGlobals "list" = some none)
    (z8 : PySem.W.nsIn K mainGlobals "max" = some none)
    (z9 : PySem.W.nsIn K mainGlobals "range" = some none)
    (z10 : PySem.W.nsIn K mainGlobals "tuple" = some none)
    (z11 : PySem.W.nsIn K mainGlobals "zip" = some none)
    {tk0 : Tok} (q0 : PySem.W.nsIn K mainGlobals "MAX_PERIOD" = some (some (.int 12 tk0)))
    {tk1 : Tok} (q1 : PySem.W.nsIn K mainGlobals "MAX_PRODUCT" = some (some (.int 20000 tk1)))
    {tk2 : Tok} (q2 : PySem.W.nsIn K mainGlobals "MAX_ROW" = some (some (.int 6 tk2))) :
    ∃ fd : FuncData, (∀ (s : Shared) (v : Value), BindsTo s fd ⟨[v], []⟩ [("_law_script", v)]) ∧ ∀ base : Heap, K.In base → base.Ns mainGlobals mg → FnOk P w K mg base (L2.CX P w) 6 fa fd ["_law_script"] (spLaw K) := by
  have e := hfa.symm.trans (PySem.W.mg_of X G a15)
  cases e
  have F0 := fun_mk (st := t_is_int) l0 c0 k0
  have b0 := F0.binds (ps := ["value", "least", "most"]) fun _ _ _ _ _ _ us hl => match us, hl with | [_, _, _], _ => rfl
  have F1 := fun_mk (st := t_divisor) l1 c1 k1
  have b1 := F1.binds (ps := ["one", "other"]) fun _ _ _ _ _ _ us hl => match us, hl with | [_, _], _ => rfl
  have F2 := fun_mk (st := t_do_meet) l2 c2 k2
  have b2 := F2.binds (ps := ["one", "other"]) fun _ _ _ _ _ _ us hl => match us, hl with | [_, _], _ => rfl
  have F3 := fun_mk (st := t_check_periods) l3 c3 k3
  have b3 := F3.binds (ps := ["value"]) fun _ _ _ _ _ _ us hl => match us, hl with | [_], _ => rfl
  have F4 := fun_mk (st := t_check_product) l4 c4 k4
  have b4 := F4.binds (ps := ["periods"]) fun _ _ _ _ _ _ us hl => match us, hl with | [_], _ => rfl
  have F5 := fun_mk (st := t_fits) l5 c5 k5
  have b5 := F5.binds (ps := ["row", "alarm"]) fun _ _ _ _ _ _ us hl => match us, hl with | [_, _], _ => rfl
  have F6 := fun_mk (st := t_are_good) l6 c6 k6
  have b6 := F6.binds (ps := ["periods", "candidate"]) fun _ _ _ _ _ _ us hl => match us, hl with | [_, _], _ => rfl
  have F7 := fun_mk (st := t_all_good) l7 c7 k7
  have b7 := F7.binds (ps := ["periods"]) fun _ _ _ _ _ _ us hl => match us, hl with | [_], _ => rfl
  have F8 := fun_mk (st := t_check_both) l8 c8 k8
  have b8 := F8.binds (ps := ["periods"]) fun _ _ _ _ _ _ us hl => match us, hl with | [_], _ => rfl
  have F9 := fun_mk (st := t_good_shifts) l9 c9 k9
  have b9 := F9.binds (ps := ["periods"]) fun _ _ _ _ _ _ us hl => match us, hl with | [_], _ => rfl
  have F10 := fun_mk (st := t_count_good) l10 c10 k10
  have b10 := F10.binds (ps := ["periods"]) fun _ _ _ _ _ _ us hl => match us, hl with | [_], _ => rfl
  have F11 := fun_mk (st := t__law_heard) l11 c11 k11
  have b11 := F11.binds (ps := ["_law_row", "_law_time"]) fun _ _ _ _ _ _ us hl => match us, hl with | [_, _], _ => rfl
  have F12 := fun_mk (st := t__law_cycle) l12 c12 k12
  have b12 := F12.binds (ps := ["_law_row"]) fun _ _ _ _ _ _ us hl => match us, hl with | [_], _ => rfl
  have F13 := fun_mk (st := t__law_pick) l13 c13 k13
  have b13 := F13.binds (ps := ["_law_script", "_law_k", "_law_many"]) fun _ _ _ _ _ _ us hl => match us, hl with | [_, _, _], _ => rfl
  have F14 := fun_mk (st := t__law_apart) l14 c14 k14
  have b14 := F14.binds (ps := ["_law_periods", "_law_shifts"]) fun _ _ _ _ _ _ us hl => match us, hl with | [_, _], _ => rfl
  have F15 := fun_mk (st := t_law) l15 c15 k15
  have b15 := F15.binds (ps := ["_law_script"]) fun _ _ _ _ _ _ us hl => match us, hl with | [_], _ => rfl
  let T : Txt K mg := {
    is_int := ⟨_, _, F0, PySem.W.mg_of X G a0, b0⟩
    divisor := ⟨_, _, F1, PySem.W.mg_of X G a1, b1⟩
    do_meet := ⟨_, _, F2, PySem.W.mg_of X G a2, b2⟩
    check_periods := ⟨_, _, F3, PySem.W.mg_of X G a3, b3⟩
    check_product := ⟨_, _, F4, PySem.W.mg_of X G a4, b4⟩
    fits := ⟨_, _, F5, PySem.W.mg_of X G a5, b5⟩
    are_good := ⟨_, _, F6, PySem.W.mg_of X G a6, b6⟩
    all_good := ⟨_, _, F7, PySem.W.mg_of X G a7, b7⟩
    check_both := ⟨_, _, F8, PySem.W.mg_of X G a8, b8⟩
    good_shifts := ⟨_, _, F9, PySem.W.mg_of X G a9, b9⟩
    count_good := ⟨_, _, F10, PySem.W.mg_of X G a10, b10⟩
    _law_heard := ⟨_, _, F11, PySem.W.mg_of X G a11, b11⟩
    _law_cycle := ⟨_, _, F12, PySem.W.mg_of X G a12, b12⟩
    _law_pick := ⟨_, _, F13, PySem.W.mg_of X G a13, b13⟩
    _law_apart := ⟨_, _, F14, PySem.W.mg_of X G a14, b14⟩
    law := ⟨_, _, F15, PySem.W.mg_of X G a15, b15⟩
    InvalidPeriods := ⟨_, PySem.W.mg_of X G ea0, ee0, ek0, es0, et0⟩
    TooLarge := ⟨_, PySem.W.mg_of X G ea1, ee1, ek1, es1, et1⟩
    z_all := PySem.W.mg_none_of X G z0
    z_any := PySem.W.mg_none_of X G z1
    z_bool := PySem.W.mg_none_of X G z2
    z_enumerate := PySem.W.mg_none_of X G z3
    z_int := PySem.W.mg_none_of X G z4
    z_isinstance := PySem.W.mg_none_of X G z5
    z_len := PySem.W.mg_none_of X G z6
    z_list := PySem.W.mg_none_of X G z7
    z_max := PySem.W.mg_none_of X G z8
    z_range := PySem.W.mg_none_of X G z9
    z_tuple := PySem.W.mg_none_of X G z10
    z_zip := PySem.W.mg_none_of X G z11
    MAX_PERIOD := ⟨_, PySem.W.mg_of X G q0⟩
    MAX_PRODUCT := ⟨_, PySem.W.mg_of X G q1⟩
    MAX_ROW := ⟨_, PySem.W.mg_of X G q2⟩
  }
  refine ⟨PySem.W.fnOf "law" "law" (defArgs t_law) (defBody t_law) (defScope t_law) .none kV15 dc15 pm15 an15 cd15 ct15, fun s v => .of_eq rfl, fun base _ _ => ?_⟩
  have g_is_int := ok_is_int (P := P) (w := w) (base := base) T
  have g_divisor := ok_divisor (P := P) (w := w) (base := base) T
  have g_do_meet := ok_do_meet (P := P) (w := w) (base := base) T g_divisor
  have g_check_periods := ok_check_periods (P := P) (w := w) (base := base) T g_is_int
  have g_check_product := ok_check_product (P := P) (w := w) (base := base) T
  have g_fits := ok_fits (P := P) (w := w) (base := base) T g_do_meet
  have g_are_good := ok_are_good (P := P) (w := w) (base := base) T g_check_periods g_is_int g_fits
  have g_all_good := ok_all_good (P := P) (w := w) (base := base) T g_fits
  have g_check_both := ok_check_both (P := P) (w := w) (base := base) T g_check_periods g_check_product
  have g_good_shifts := ok_good_shifts (P := P) (w := w) (base := base) T g_check_both g_all_good
  have g_count_good := ok_count_good (P := P) (w := w) (base := base) T g_check_both g_all_good
  have g__law_heard := ok__law_heard (P := P) (w := w) (base := base) T
  have g__law_cycle := ok__law_cycle (P := P) (w := w) (base := base) T
  have g__law_pick := ok__law_pick (P := P) (w := w) (base := base) T
  have g__law_apart := ok__law_apart (P := P) (w := w) (base := base) T g__law_cycle g__law_heard
  have g_law := ok_law (P := P) (w := w) (base := base) T g__law_pick g__law_apart g_count_good g_good_shifts g_are_good
  exact law_imp g_law t
end k20_whole_shifts
end RT

namespace RT
/-! S0: what the plain functions compute, as rules for simp -/
section
variable {ρ : Env} {d e x y : D} {i j : Int} {n : Nat} {f g h : EF}
@[simp] theorem v_0 : eV 0 (some d :: ρ) = .ok d := id rfl
@[simp] theorem v_S {o : Option D} : eV (n + 1) (o :: ρ) = eV n ρ := id rfl
@[simp] theorem ev_C : eC d ρ = .ok d := id rfl
@[simp] theorem ev_1 {op : D → R D} : e1 op f ρ = (f ρ).bind op := id rfl
@[simp] theorem ev_2 {op : D → D → R D} : e2 op f g ρ = (f ρ).bind fun x => (g ρ).bind fun y => op x y := id rfl
@[simp] theorem av_N : aN ρ = .ok [] := id rfl
@[simp] theorem av_C {a : AF} : aC f a ρ = (f ρ).bind fun x => (a ρ).bind fun xs => .ok (x :: xs) := id rfl
@[simp] theorem ev_Tup {a : AF} : eTup a ρ = (a ρ).bind fun xs => if xs.length ≤ lim then .ok (.tup xs) else .stuck := id rfl
@[simp] theorem ev_Lst {a : AF} : eLst a ρ = (a ρ).bind fun xs => if xs.length ≤ lim then .ok (.lst xs) else .stuck := id rfl
@[simp] theorem ev_F {F : List D → R D} {a : AF} : eF F a ρ = (a ρ).bind F := id rfl
@[simp] theorem ev_None : eNone f ρ = (f ρ).bind fun x => .ok (.bl x.isNone) := id rfl
@[simp] theorem ev_NotNone : eNotNone f ρ = (f ρ).bind fun x => .ok (.bl (!x.isNone)) := id rfl
@[simp] theorem ev_And : eAnd f g ρ = (f ρ).bind fun x => x.asB.bind fun b => if b = true then g ρ else .ok (.bl false) := id rfl
@[simp] theorem ev_Or : eOr f g ρ = (f ρ).bind fun x => x.asB.bind fun b => if b = true then .ok (.bl true) else g ρ := id rfl
@[simp] theorem ev_Not : eNot f ρ = (f ρ).bind fun x => x.asB.bind fun b => .ok (.bl (!b)) := id rfl
@[simp] theorem ev_If {t : TF} : eIf t f g ρ = (t ρ).bind fun b => if b = true then f ρ else g ρ := id rfl
@[simp] theorem ev_Chain {op op' : D → D → R D} : eChain op op' f g h ρ = (f ρ).bind fun x => (g ρ).bind fun y => (op x y).bind fun z => z.asB.bind fun b =>
  if b = true then (h ρ).bind fun w => op' y w else .ok (.bl false) := id rfl
@[simp] theorem tv_V : tV f ρ = (f ρ).bind D.asB := id rfl
@[simp] theorem tv_And {t u : TF} : tAndF t u ρ = (t ρ).bind fun b => if b = true then u ρ else .ok false := id rfl
@[simp] theorem tv_Or {t u : TF} : tOrF t u ρ = (t ρ).bind fun b => if b = true then .ok true else u ρ := id rfl
@[simp] theorem tv_Not {t : TF} : tNotF t ρ = (t ρ).bind fun b => .ok (!b) := id rfl
@[simp] theorem tv_Yes : tYesF ρ = .ok true := id rfl
@[simp] theorem iv_Items : sItems f ρ = (f ρ).bind D.items := id rfl
@[simp] theorem iv_A {F : List D → R (List D)} {a : AF} : sA F a ρ = (a ρ).bind F := id rfl
@[simp] theorem gv_N : gN n d ρ = some (ρ.set n (some d)) := id rfl
@[simp] theorem gv_T {gs : List D → Env → Option Env} {xs : List D} : gT gs (.tup xs) ρ = gs xs ρ := id rfl
@[simp] theorem gv_0 : gs0 [] ρ = some ρ := id rfl
@[simp] theorem gv_C {g : GF} {gs : List D → Env → Option Env} {r : List D} : gsC g gs (d :: r) ρ = (g d ρ).bind (gs r) := id rfl
@[simp] theorem wv_0 : wipeE ρ [] = ρ := id rfl
@[simp] theorem wv_C {vs : List Nat} : wipeE ρ (n :: vs) = (wipeE ρ vs).set n none := id rfl
@[simp] theorem ev_Comp {src : AF} {vs : List Nat} {g : GF} {t : TF} : eComp src vs g t f ρ = (src ρ).bind fun xs => (compL g t f (wipeE ρ vs) xs).bind fun ys => .ok (.lst ys) := id rfl
/-! statements -/
@[simp] theorem at_n {k : SF} : andThen (.nx ρ) k = k ρ := id rfl
@[simp] theorem at_r {k : SF} : andThen (.rt d) k = .rt d := id rfl
@[simp] theorem at_e {k : SF} {c : Str} : andThen (.er c ρ) k = .er c ρ := id rfl
@[simp] theorem at_s {k : SF} : andThen .stuck k = .stuck := id rfl
@[simp] theorem st_Nx : sNx ρ = .nx ρ := id rfl
@[simp] theorem st_Seq {s u : SF} : sSeq s u ρ = andThen (s ρ) u := id rfl
@[simp] theorem wr_o {α : Type} {a : α} {k : α → Out} : withR (.ok a) ρ k = k a := id rfl
@[simp] theorem wr_e {α : Type} {c : Str} {k : α → Out} : withR (.err c : R α) ρ k = .er c ρ := id rfl
@[simp] theorem wr_s {α : Type} {k : α → Out} : withR (.stuck : R α) ρ k = .stuck := id rfl
@[simp] theorem st_Set : sSet n f ρ = withR (f ρ) ρ fun d => .nx (ρ.set n (some d)) := id rfl
@[simp] theorem st_SetO : sSetO n f ρ = withR (f ρ) ρ fun d => match d with
  | .lst xs => .nx (ρ.set n (some (.lst xs)))
  | .dct ks => .nx (ρ.set n (some (.dct ks)))
  | .clk r m a b => .nx (ρ.set n (some (.clk r m a b)))
  | _ => .stuck := id rfl
@[simp] theorem st_Asg {g : GF} : sAsg g f ρ = withR (f ρ) ρ fun d => match g d ρ with
  | some ρ' => .nx ρ'
  | none => .stuck := id rfl
@[simp] theorem sto_f : sto false n d ρ = some (ρ.set n (some d)) := id rfl
@[simp] theorem sto_t {xs : List D} : sto true n (.lst xs) ρ = some (ρ.set n (some (.lst xs))) := id rfl
@[simp] theorem outO_s : outO (some ρ) = .nx ρ := id rfl
@[simp] theorem st_Par2 {b c : Bool} {k : Nat} : sPar2 b n f c k g ρ = withR (f ρ) ρ fun d => withR (g ρ) ρ fun e => outO ((sto b n d ρ).bind (sto c k e)) := id rfl
@[simp] theorem st_Par3 {b c a : Bool} {k l : Nat} : sPar3 b n f c k g a l h ρ = withR (f ρ) ρ fun d => withR (g ρ) ρ fun e => withR (h ρ) ρ fun u => outO (((sto b n d ρ).bind (sto c k e)).bind (sto a l u)) := id rfl
@[simp] theorem st_Drop : sDrop f ρ = withR (f ρ) ρ fun _ => .nx ρ := id rfl
@[simp] theorem st_Ret : sRet f ρ = withR (f ρ) ρ fun d => .rt d := id rfl
@[simp] theorem st_If {t : TF} {s u : SF} : sIf t s u ρ = withR (t ρ) ρ fun b => if b = true then s ρ else u ρ := id rfl
@[simp] theorem st_Raise {c : Str} : sRaise c ρ = .er c ρ := id rfl
@[simp] theorem st_For {src : AF} {g : GF} {b : SF} : sFor src g b ρ = withR (src ρ) ρ fun xs => loopF g b xs ρ := id rfl
@[simp] theorem st_While {t : TF} {b : SF} : sWhile t b ρ = loopW t b fuel ρ := id rfl
@[simp] theorem st_App : sApp n f ρ = (match ρ[n]? with
  | some (some (.lst xs)) => withR (f ρ) ρ fun d => if xs.length < lim then .nx (ρ.set n (some (.lst (xs ++ [d])))) else .stuck
  | _ => .stuck) := id rfl
@[simp] theorem st_Ext : sExt n f ρ = (match ρ[n]? with
  | some (some (.lst xs)) => withR (f ρ) ρ fun d => match d with
    | .lst ys => if xs.length + ys.length ≤ lim then .nx (ρ.set n (some (.lst (xs ++ ys)))) else .stuck
    | _ => .stuck
  | _ => .stuck) := id rfl
@[simp] theorem st_Put : sPut n f g ρ = withR (f ρ) ρ fun d => (match ρ[n]? with
  | some (some (.lst xs)) => withR (g ρ) ρ fun k => match k with
    | .int j => if 0 ≤ j ∧ j < xs.length then .nx (ρ.set n (some (.lst (xs.set j.toNat d)))) else .stuck
    | _ => .stuck
  | _ => .stuck) := id rfl
@[simp] theorem body_eq {s : SF} {ds : List D} : body n s ds = match s (ds.map some ++ List.replicate n none) with
  | .rt d => .ok d
  | .nx _ => .ok .non
  | .er c _ => .err c
  | .stuck => .stuck := id rfl
/-! operations -/
@[simp] theorem asB_b {b : Bool} : D.asB (.bl b) = .ok b := id rfl
@[simp] theorem add_i : D.add (.int i) (.int j) = .ok (.int (i + j)) := id rfl
@[simp] theorem sub_i : D.sub (.int i) (.int j) = .ok (.int (i - j)) := id rfl
@[simp] theorem neg_i : D.neg (.int i) = .ok (.int (-i)) := id rfl
@[simp] theorem lt_i : D.lt (.int i) (.int j) = .ok (.bl (decide (i < j))) := id rfl
@[simp] theorem le_i : D.le (.int i) (.int j) = .ok (.bl (decide (i ≤ j))) := id rfl
@[simp] theorem gt_i : D.gt (.int i) (.int j) = .ok (.bl (decide (j < i))) := id rfl
@[simp] theorem ge_i : D.ge (.int i) (.int j) = .ok (.bl (decide (j ≤ i))) := id rfl
theorem mod_i (h : 0 < j) : D.mod (.int i) (.int j) = .ok (.int (i % j)) := by simp [D.mod, h]
theorem fdiv_i (h : 0 < j) (h2 : j < 2 ^ 64) : D.fdiv (.int i) (.int j) = .ok (.int (i / j)) := by
  have : j < 18446744073709551616 := h2
  simp [D.fdiv, h, this]
theorem mul_i (h : (-(2 ^ 64) < i ∧ i < 2 ^ 64) ∨ (-(2 ^ 64) < j ∧ j < 2 ^ 64)) : D.mul (.int i) (.int j) = .ok (.int (i * j)) := by
  have : (D.small i || D.small j) = true := by simp [D.small]; omega
  simp [D.mul, this]
@[simp] theorem eq_i : D.eq (.int i) (.int j) = .ok (.bl (decide (i = j))) := by simp [D.eq, D.shaped, D.sh, D.okEq, D.noScr, D.eqv]; rfl
@[simp] theorem ne_i : D.ne (.int i) (.int j) = .ok (.bl (!decide (i = j))) := by simp [D.ne, D.shaped, D.sh, D.okEq, D.noScr, D.eqv]; rfl
@[simp] theorem isB_b {a b : Bool} : D.isB (.bl a) (.bl b) = .ok (.bl (decide (a = b))) := id rfl
@[simp] theorem isNotB_b {a b : Bool} : D.isNotB (.bl a) (.bl b) = .ok (.bl (!decide (a = b))) := id rfl
@[simp] theorem isNone_n : D.isNone .non = true := id rfl
@[simp] theorem isNone_i : D.isNone (.int i) = false := id rfl
@[simp] theorem isNone_t {xs : List D} : D.isNone (.tup xs) = false := id rfl
@[simp] theorem isNone_l {xs : List D} : D.isNone (.lst xs) = false := id rfl
@[simp] theorem items_l {xs : List D} : D.items (.lst xs) = .ok xs := id rfl
@[simp] theorem items_t {xs : List D} : D.items (.tup xs) = .ok xs := id rfl
@[simp] theorem bLen_l {xs : List D} : D.bLen [.lst xs] = .ok (.int xs.length) := id rfl
@[simp] theorem bLen_t {xs : List D} : D.bLen [.tup xs] = .ok (.int xs.length) := id rfl
@[simp] theorem bLen_s {xs : List Int} : D.bLen [.scr xs] = .ok (.int xs.length) := id rfl
@[simp] theorem bTuple_l {xs : List D} : D.bTuple [.lst xs] = .ok (.tup xs) := id rfl
@[simp] theorem bTuple_t {xs : List D} : D.bTuple [.tup xs] = .ok (.tup xs) := id rfl
@[simp] theorem bList_l {xs : List D} : D.bList [.lst xs] = .ok (.lst xs) := id rfl
@[simp] theorem bList_t {xs : List D} : D.bList [.tup xs] = .ok (.lst xs) := id rfl
@[simp] theorem bMax2_i : D.bMax2 [.int i, .int j] = .ok (.int (if j > i then j else i)) := id rfl
@[simp] theorem bMin2_i : D.bMin2 [.int i, .int j] = .ok (.int (if j < i then j else i)) := id rfl
@[simp] theorem bAbs_i : D.bAbs [.int i] = .ok (.int (if i < 0 then -i else i)) := id rfl
@[simp] theorem enum_t {xs : List D} : enumA [.tup xs] = .ok (zipD (upto 0 xs.length) xs) := id rfl
@[simp] theorem enum_l {xs : List D} : enumA [.lst xs] = .ok (zipD (upto 0 xs.length) xs) := id rfl
@[simp] theorem rngA_1 : rngA [.int j] = rng 0 j := id rfl
@[simp] theorem rngA_2 : rngA [.int i, .int j] = rng i j := id rfl
@[simp] theorem idx_t {xs : List D} : D.idx (.tup xs) (.int i) = D.at? xs i := id rfl
@[simp] theorem idx_l {xs : List D} : D.idx (.lst xs) (.int i) = D.at? xs i := id rfl
@[simp] theorem idx_s {xs : List Int} : D.idx (.scr xs) (.int i) = D.at? (xs.map .int) i := id rfl
@[simp] theorem at_0 {xs : List D} : D.at? (d :: xs) 0 = .ok d := id rfl
@[simp] theorem at_1 {xs : List D} : D.at? (d :: e :: xs) 1 = .ok e := id rfl
theorem at_nat {xs : List D} {k : Nat} (h : xs[k]? = some d) : D.at? xs (k : Int) = .ok d := by simp [D.at?, h]
theorem at_get {xs : List D} {k : Nat} (h : k < xs.length) : D.at? xs (k : Int) = .ok xs[k] := at_nat (List.getElem?_eq_getElem h)
theorem rng_ok' (h1 : -(2 ^ 62) ≤ i) (h2 : i < 2 ^ 62) (h3 : -(2 ^ 62) ≤ j) (h4 : j < 2 ^ 62) (h5 : (j - i).toNat ≤ lim) : rng i j = .ok (upto i (j - i).toNat) := by
  have a1 : (-4611686018427387904 : Int) ≤ i := h1
  have a2 : i < (4611686018427387904 : Int) := h2
  have a3 : (-4611686018427387904 : Int) ≤ j := h3
  have a4 : j < (4611686018427387904 : Int) := h4
  simp [rng, a1, a2, a3, a4, h5]
theorem upto_map : ∀ (i : Int) (n : Nat), upto i n = (List.range n).map fun k => D.int (i + (k : Nat))
  | i, 0 => rfl
  | i, n + 1 => by
    rw [upto, upto_map (i + 1) n, List.range_succ_eq_map, List.map_cons, List.map_map]
    congr 1
    · simp
    · apply List.map_congr_left
      intro k _
      simp only [Function.comp]
      congr 1
      omega
theorem rng_nat {n : Nat} (h : n ≤ lim) : rng 0 (n : Int) = .ok ((List.range n).map fun k => D.int (k : Nat)) := by
  have hl : n ≤ 16777216 := h
  rw [rng_ok' (by omega) (by omega) (by omega) (by omega) (by simpa using h), upto_map]
  simp
end
theorem lim0 : (0 ≤ lim) = True := eq_true (Nat.zero_le _)
theorem lim1 : (1 ≤ lim) = True := eq_true (by decide)
theorem lim2' : (2 ≤ lim) = True := eq_true (by decide)
theorem lim3 : (3 ≤ lim) = True := eq_true (by decide)
/-! closed checks -/
def isTrue : R D → Bool
  | .ok (.bl true) => true
  | _ => false
theorem of_isTrue {x : R D} (h : isTrue x = true) : x = .ok (.bl true) := by
  unfold isTrue at h
  split at h
  · rfl
  · cases h
def isInt (i : Int) : R D → Bool
  | .ok (.int j) => decide (i = j)
  | _ => false
theorem of_isInt {x : R D} {i : Int} (h : isInt i x = true) : x = .ok (.int i) := by
  unfold isInt at h
  split at h
  · rw [of_decide_eq_true h]
  · cases h
/-! comprehensions and loops by what one turn does -/
theorem compL_ok {α : Type} {g : GF} {t : TF} {e : EF} {ρ : Env} (inj : α → D) (p : α → Bool) (f : α → D) : ∀ l : List α,
    (∀ x ∈ l, ∃ ρ1, g (inj x) ρ = some ρ1 ∧ t ρ1 = .ok (p x) ∧ (p x = true → e ρ1 = .ok (f x))) → compL g t e ρ (l.map inj) = .ok ((l.filter p).map f)
  | [], _ => rfl
  | x :: l, h => by
    obtain ⟨ρ1, h1, h2, h3⟩ := h x (by simp)
    have ih := compL_ok inj p f l fun y hy => h y (by simp [hy])
    rw [List.map_cons, compL, h1]
    simp only [h2]
    cases hp : p x with
    | true => simp only [hp, h3 hp, ih, List.filter_cons_of_pos hp, List.map_cons]
    | false => simp only [ih, List.filter_cons_of_neg (show ¬ p x = true by simp [hp])]
theorem compL_all {α : Type} {g : GF} {e : EF} {ρ : Env} (inj : α → D) (f : α → D) (l : List α)
    (h : ∀ x ∈ l, ∃ ρ1, g (inj x) ρ = some ρ1 ∧ e ρ1 = .ok (f x)) : compL g tYesF e ρ (l.map inj) = .ok (l.map f) := by
  have := compL_ok (g := g) (t := tYesF) (e := e) (ρ := ρ) inj (fun _ => true) f l fun x hx => let ⟨ρ1, a, b⟩ := h x hx; ⟨ρ1, a, rfl, fun _ => b⟩
  rw [this]
  congr 2
  exact List.filter_eq_self.mpr fun _ _ => rfl
/-- a loop that keeps Inv -/
theorem loopF_inv {g : GF} {b : SF} (I : Env → Prop) : ∀ (xs : List D) (ρ : Env), I ρ → (∀ x ∈ xs, ∀ ρ, I ρ → ∃ ρ1 ρ2, g x ρ = some ρ1 ∧ b ρ1 = .nx ρ2 ∧ I ρ2) → ∃ ρ', loopF g b xs ρ = .nx ρ' ∧ I ρ'
  | [], ρ, h, _ => ⟨ρ, rfl, h⟩
  | x :: xs, ρ, h, s => by
    obtain ⟨ρ1, ρ2, h1, h2, h3⟩ := s x (by simp) ρ h
    obtain ⟨ρ', h4, h5⟩ := loopF_inv I xs ρ2 h3 fun y hy => s y (by simp [hy])
    refine ⟨ρ', ?_, h5⟩
    rw [loopF, h1]
    simp only [h2, at_n, h4]
/-- a loop whose state is told by S, step by step -/
theorem loopF_fold {α β : Type} {g : GF} {b : SF} (inj : α → D) (I : β → Env → Prop) (f : β → α → β) : ∀ (l : List α) (c : β) (ρ : Env), I c ρ → (∀ x ∈ l, ∀ c ρ, I c ρ → ∃ ρ1 ρ2, g (inj x) ρ = some ρ1 ∧ b ρ1 = .nx ρ2 ∧ I (f c x) ρ2) → ∃ ρ', loopF g b (l.map inj) ρ = .nx ρ' ∧ I (l.foldl f c) ρ'
  | [], c, ρ, h, _ => ⟨ρ, rfl, h⟩
  | x :: xs, c, ρ, h, s => by
    obtain ⟨ρ1, ρ2, h1, h2, h3⟩ := s x (by simp) c ρ h
    obtain ⟨ρ', h4, h5⟩ := loopF_fold inj I f xs (f c x) ρ2 h3 fun y hy => s y (by simp [hy])
    refine ⟨ρ', ?_, h5⟩
    rw [List.map_cons, loopF, h1]
    simp only [h2, at_n, h4]
/-- a while loop by a measure -/
theorem loopW_inv {t : TF} {b : SF} (I : Nat → Env → Prop) (Q : Env → Prop)
    (s : ∀ m ρ, I m ρ → (t ρ = .ok false ∧ Q ρ) ∨ (t ρ = .ok true ∧ ∃ m' ρ', m' < m ∧ b ρ = .nx ρ' ∧ I m' ρ')) : ∀ (n m : Nat) (ρ : Env), m < n → I m ρ → ∃ ρ', loopW t b n ρ = .nx ρ' ∧ Q ρ'
  | 0, _, _, h, _ => absurd h (by omega)
  | n + 1, m, ρ, h, i => by
    rcases s m ρ i with ⟨h1, h2⟩ | ⟨h1, m', ρ', h2, h3, h4⟩
    · exact ⟨ρ, by simp [loopW, h1], h2⟩
    · obtain ⟨ρ2, h5, h6⟩ := loopW_inv I Q s n m' ρ' (by omega) h4
      exact ⟨ρ2, by simp [loopW, h1, h3, h5], h6⟩
end RT

namespace RT
/-! S1: equality -/
def okD (d : D) : Prop := D.shaped d = true ∧ D.noScr d = true
mutual
theorem eqv_refl : ∀ (d : D) (n : Nat), D.sh d n = true → D.noScr d = true → D.eqv d d = true
  | .non, _, _, _ => rfl
  | .bl b, _, _, _ => by simp [D.eqv]
  | .int i, _, _, _ => by simp [D.eqv]
  | .str s, _, _, _ => by simp [D.eqv]
  | .lst xs, n, h, g => by
    simp only [D.sh, Bool.and_eq_true] at h
    simp only [D.noScr] at g
    simpa [D.eqv] using eqvL_refl xs _ h.2 g
  | .tup xs, n, h, g => by
    simp only [D.sh, Bool.and_eq_true] at h
    simp only [D.noScr] at g
    simpa [D.eqv] using eqvL_refl xs _ h.2 g
  | .exc _ _, _, h, _ => by simp [D.sh] at h
  | .fn _, _, h, _ => by simp [D.sh] at h
  | .dct _, _, h, _ => by simp [D.sh] at h
  | .dtt _, _, h, _ => by simp [D.sh] at h
  | .clk _ _ _ _, _, h, _ => by simp [D.sh] at h
  | .scr _, _, _, g => by simp [D.noScr] at g
theorem eqvL_refl : ∀ (d : List D) (n : Nat), D.shL d n = true → D.noScrL d = true → D.eqvL d d = true
  | [], _, _, _ => rfl
  | x :: xs, n, h, g => by
    simp only [D.shL, Bool.and_eq_true] at h
    simp only [D.noScrL, Bool.and_eq_true] at g
    simp only [D.eqvL, Bool.and_eq_true]
    exact ⟨eqv_refl x n h.1 g.1, eqvL_refl xs n h.2 g.2⟩
end
theorem okEq_of {a b : D} (ha : D.noScr a = true) (hb : D.noScr b = true) : D.okEq a b = true := by
  cases a <;> simp_all [D.okEq, D.noScr]
theorem eq_ok {a b : D} (ha : okD a) (hb : okD b) : D.eq a b = .ok (.bl (D.eqv a b)) := by
  simp [D.eq, ha.1, hb.1, okEq_of ha.2 hb.2]
theorem ne_ok {a b : D} (ha : okD a) (hb : okD b) : D.ne a b = .ok (.bl (!D.eqv a b)) := by
  simp [D.ne, ha.1, hb.1, okEq_of ha.2 hb.2]
theorem eq_self {a : D} (ha : okD a) : D.eq a a = .ok (.bl true) := by rw [eq_ok ha ha, eqv_refl a _ ha.1 ha.2]
theorem ne_self {a : D} (ha : okD a) : D.ne a a = .ok (.bl false) := by rw [ne_ok ha ha, eqv_refl a _ ha.1 ha.2]; rfl
@[simp] theorem okD_int {i : Int} : okD (.int i) := ⟨rfl, rfl⟩
@[simp] theorem okD_bl {i : Bool} : okD (.bl i) := ⟨rfl, rfl⟩
@[simp] theorem okD_non : okD .non := ⟨rfl, rfl⟩
/-- data of a nesting of at most n, without the script -/
def okN (n : Nat) (d : D) : Prop := D.sh d n = true ∧ D.noScr d = true
theorem okN_int {i : Int} {n : Nat} : okN n (.int i) := ⟨by simp [D.sh], rfl⟩
theorem okN_bl {i : Bool} {n : Nat} : okN n (.bl i) := ⟨by simp [D.sh], rfl⟩
theorem okN_non {n : Nat} : okN n .non := ⟨by simp [D.sh], rfl⟩
theorem shL_of {xs : List D} {n : Nat} (h : ∀ x ∈ xs, okN n x) : D.shL xs n = true ∧ D.noScrL xs = true := by
  induction xs with
  | nil => exact ⟨by simp [D.shL], rfl⟩
  | cons x xs ih =>
    have h1 := h x (by simp)
    have h2 := ih fun y hy => h y (by simp [hy])
    exact ⟨by simp [D.shL, h1.1, h2.1], by simp [D.noScrL, h1.2, h2.2]⟩
theorem okN_lst {xs : List D} {n : Nat} (h : ∀ x ∈ xs, okN n x) : okN (n + 1) (.lst xs) := by
  have := shL_of h
  exact ⟨by simp [D.sh, this.1], by simp [D.noScr, this.2]⟩
theorem okN_tup {xs : List D} {n : Nat} (h : ∀ x ∈ xs, okN n x) : okN (n + 1) (.tup xs) := by
  have := shL_of h
  exact ⟨by simp [D.sh, this.1], by simp [D.noScr, this.2]⟩
mutual
theorem sh_mono : ∀ (d : D) (n m : Nat), n ≤ m → D.sh d n = true → D.sh d m = true
  | .non, _, _, _, _ => by simp [D.sh]
  | .bl b, _, _, _, _ => by simp [D.sh]
  | .int i, _, _, _, _ => by simp [D.sh]
  | .str s, _, _, _, h => by simpa [D.sh] using h
  | .lst xs, n, m, hm, h => by
    simp only [D.sh, Bool.and_eq_true, decide_eq_true_eq] at h ⊢
    exact ⟨by omega, shL_mono xs _ _ (by omega) h.2⟩
  | .tup xs, n, m, hm, h => by
    simp only [D.sh, Bool.and_eq_true, decide_eq_true_eq] at h ⊢
    exact ⟨by omega, shL_mono xs _ _ (by omega) h.2⟩
  | .exc _ _, _, _, _, h => by simp [D.sh] at h
  | .fn _, _, _, _, h => by simp [D.sh] at h
  | .dct _, _, _, _, h => by simp [D.sh] at h
  | .dtt _, _, _, _, h => by simp [D.sh] at h
  | .clk _ _ _ _, _, _, _, h => by simp [D.sh] at h
  | .scr _, n, m, hm, h => by
    simp only [D.sh, decide_eq_true_eq] at h ⊢
    omega
theorem shL_mono : ∀ (d : List D) (n m : Nat), n ≤ m → D.shL d n = true → D.shL d m = true
  | [], _, _, _, _ => by simp [D.shL]
  | x :: xs, n, m, hm, h => by
    simp only [D.shL, Bool.and_eq_true] at h ⊢
    exact ⟨sh_mono x n m hm h.1, shL_mono xs n m hm h.2⟩
end
theorem okD_of {d : D} (n : Nat) (h : okN n d) (hn : n ≤ 60 := by decide) : okD d := ⟨sh_mono d n 60 hn h.1, h.2⟩
/-! lists of numbers -/
def dI (xs : List Int) : D := .lst (xs.map .int)
def dN (xs : List Nat) : D := .lst (xs.map fun k => .int (k : Nat))
theorem okD_ints {α : Type} {f : α → Int} {xs : List α} : okD (.lst (xs.map fun a => .int (f a))) := okD_of 1 (okN_lst fun x h => by
  obtain ⟨a, _, rfl⟩ := List.mem_map.mp h
  exact okN_int)
@[simp] theorem okD_nil : okD (.lst []) := ⟨rfl, rfl⟩
@[simp] theorem okD_tnil : okD (.tup []) := ⟨rfl, rfl⟩
theorem ne_nil {xs : List D} (h : okD (.lst xs)) : D.ne (.lst xs) (.lst []) = .ok (.bl (!xs.isEmpty)) := by
  rw [ne_ok h okD_nil]
  cases xs <;> simp [D.eqv, D.eqvL]
theorem eq_nil {xs : List D} (h : okD (.lst xs)) : D.eq (.lst xs) (.lst []) = .ok (.bl xs.isEmpty) := by
  rw [eq_ok h okD_nil]
  cases xs <;> simp [D.eqv, D.eqvL]
theorem intsOf_map {α : Type} {f : α → Int} : ∀ xs : List α, D.intsOf (xs.map fun a => .int (f a)) = some (xs.map f)
  | [] => rfl
  | x :: xs => by simp [D.intsOf, intsOf_map xs]
theorem blsOf_map {α : Type} {f : α → Bool} : ∀ xs : List α, D.blsOf (xs.map fun a => .bl (f a)) = some (xs.map f)
  | [] => rfl
  | x :: xs => by simp [D.blsOf, blsOf_map xs]
theorem bSum_map {α : Type} {f : α → Int} {xs : List α} : D.bSum [.lst (xs.map fun a => .int (f a))] = .ok (.int (xs.map f).sum) := by
  simp [D.bSum, D.onInts, intsOf_map]
theorem bMax_map {α : Type} {f : α → Int} {xs : List α} (h : xs ≠ []) : D.bMax [.lst (xs.map fun a => .int (f a))] = .ok (.int (D.maxI (xs.map f))) := by
  cases xs <;> simp_all [D.bMax, D.onInts, intsOf_map, D.intsOf]
theorem bMin_map {α : Type} {f : α → Int} {xs : List α} (h : xs ≠ []) : D.bMin [.lst (xs.map fun a => .int (f a))] = .ok (.int (D.minI (xs.map f))) := by
  cases xs <;> simp_all [D.bMin, D.onInts, intsOf_map, D.intsOf]
theorem bAll_map {α : Type} {f : α → Bool} {xs : List α} : D.bAll [.lst (xs.map fun a => .bl (f a))] = .ok (.bl (xs.all f)) := by
  simp [D.bAll, D.onBls, blsOf_map]
theorem bAny_map {α : Type} {f : α → Bool} {xs : List α} : D.bAny [.lst (xs.map fun a => .bl (f a))] = .ok (.bl (xs.any f)) := by
  simp [D.bAny, D.onBls, blsOf_map]
end RT

namespace RT
/-! S2: drawing, alarms, rows -/
@[simp] theorem ne_scr {ns : List Int} : D.ne (.scr ns) (.lst []) = .ok (.bl (!ns.isEmpty)) := by
  simp [D.ne, D.shaped, D.sh, D.shL, D.okEq, D.eqv]
theorem pow_lit {i : Int} {k : Nat} (hk : k ≤ 1000000) (hi : i.natAbs < 2 ^ 64) : D.pow (.int i) (.int (k : Int)) = .ok (.int (i ^ k)) := by
  have h1 : (k : Int) ≤ 1000000 := by omega
  have h2 : (0 : Int) ≤ k := by omega
  simp [D.pow, h1, h2, hi]
theorem pow18 : D.pow (.int 10) (.int 18) = .ok (.int (10 ^ 18)) := pow_lit (k := 18) (by decide) (by decide)
theorem pow9 : D.pow (.int 10) (.int 9) = .ok (.int (10 ^ 9)) := pow_lit (k := 9) (by decide) (by decide)
theorem pick_loop {ns : List Int} {k m c : D} {o6 : Option D} : ∀ (n : Nat) (rest again : Int), again < n → ∃ (r a : Int),
    loopW (tAndF (tV (e2 D.gt (eV 4) (eC (.int 0)))) (tV (e2 D.gt (eV 5) (eC (.int 0)))))
      PP.b__law_pick_1 n [some (.scr ns), some k, some m, some c, some (.int rest), some (.int again), o6]
      = .nx [some (.scr ns), some k, some m, some c, some (.int r), some (.int a), o6] ∨ n = 0 := by
  intro n
  induction n with
  | zero => intro rest again h; exact ⟨0, 0, .inr rfl⟩
  | succ n ih =>
    intro rest again h
    by_cases h1 : 0 < rest
    · by_cases h2 : 0 < again
      · obtain ⟨r, a, q⟩ := ih (rest / 840) (again - 1) (by omega)
        rcases q with q | q
        · refine ⟨r, a, .inl ?_⟩
          have hb : PP.b__law_pick_1 [some (.scr ns), some k, some m, some c, some (.int rest), some (.int again), o6] = .nx [some (.scr ns), some k, some m, some c, some (.int (rest / 840)), some (.int (again - 1)), o6] := by simp [PP.b__law_pick_1, fdiv_i]
          simp [loopW, h1, h2, hb, q]
        · subst q; omega
      · exact ⟨rest, again, .inl (by simp [loopW, h1, h2])⟩
    · exact ⟨rest, again, .inl (by simp [loopW, h1])⟩
theorem pick_ok {ns : List Int} (hn : ns.length ≤ 63) (k m : Nat) (hm : 0 < m) (hk : k < 1000000 := by omega) : ∃ v : Nat, v < m ∧ PP.d__law_pick [.scr ns, .int k, .int m] = .ok (.int v) := by
  have fin : ∀ x : Int, ∃ v : Nat, v < m ∧ x % (m : Int) = v := fun x => ⟨(x % (m : Int)).toNat, by
    have := Int.emod_nonneg x (show (m : Int) ≠ 0 by omega); have := Int.emod_lt_of_pos x (show (0 : Int) < m by omega); omega, by
    have := Int.emod_nonneg x (show (m : Int) ≠ 0 by omega); omega⟩
  have hm' : (0 : Int) < m := by omega
  have cell : ∃ c : Int, (eIf (tV (e2 D.ne (eV 0) (eLst aN))) (e2 D.idx (eV 0) (e2 D.mod (eV 1) (eF D.bLen (aC (eV 0) aN)))) (eC (.int 0))) [some (.scr ns), some (.int k), some (.int m), none, none, none, none] = .ok (.int c) := by
    cases hns : ns.isEmpty with
    | true => exact ⟨0, by simp [hns]⟩
    | false =>
      have hl : 0 < ns.length := by cases ns <;> simp_all
      have hl' : (0 : Int) < ns.length := by omega
      have hb := Nat.mod_lt k hl
      refine ⟨ns[k % ns.length], ?_⟩
      simp only [ev_If, tv_V, ev_2, v_0, R.bind_ok, ev_Lst, av_N, List.length_nil, Nat.zero_le, if_true, ne_scr, asB_b, hns, Bool.not_false, v_S, ev_F, av_C, bLen_s, mod_i hl', idx_s]
      have : ((k : Int) % (ns.length : Int)) = ((k % ns.length : Nat) : Int) := by simp
      rw [this]
      exact at_nat (by simp [hb])
  obtain ⟨c, hc⟩ := cell
  have hM : ∃ M : Int, 0 < M ∧ M < 2 ^ 64 ∧ (if (1 : Int) > ns.length then (1 : Int) else ns.length) = M := by
    refine ⟨_, ?_, ?_, rfl⟩
    · split <;> omega
    · split <;> omega
  obtain ⟨M, hM1, hM2, hM3⟩ := hM
  have hdiv : (k : Int) / M < 1000000 := by
    have : (k : Int) / M ≤ k := Int.ediv_le_self _ (by omega)
    omega
  obtain ⟨r, a, q⟩ := pick_loop (ns := ns) (k := .int k) (m := .int m) (c := .int c) (o6 := none) 1000000 (c / 10 ^ 18) (k / M) hdiv
  rcases q with q | q
  · unfold PP.d__law_pick PP.s__law_pick
    rw [body_eq]
    simp only [List.map_cons, List.map_nil, List.replicate, List.cons_append, List.nil_append, st_Seq, st_Set, hc, wr_o, List.set_cons_succ, List.set_cons_zero, at_n]
    simp only [st_Par2, ev_2, v_S, v_0, R.bind_ok, ev_C, pow18, ev_F, av_C, av_N, bLen_s, bMax2_i, hM3, fdiv_i hM1 hM2, fdiv_i (show (0 : Int) < 10 ^ 18 by decide) (show (10 ^ 18 : Int) < 2 ^ 64 by decide), wr_o, sto_f, Option.bind_some, List.set_cons_succ, List.set_cons_zero, outO_s, at_n, st_Seq, st_While]
    rw [show fuel = 1000000 from rfl, q]
    by_cases hr : 0 < r
    · obtain ⟨v, hv, ev⟩ := fin (r % 840)
      refine ⟨v, hv, ?_⟩
      simp [hr, mod_i hm', mod_i (j := 840) (by decide), ev]
    · simp only [at_n, st_Seq, st_If, tv_V, ev_2, v_S, v_0, R.bind_ok, ev_C, gt_i, asB_b, wr_o, hr, decide_false, st_Nx]
      generalize hd : (c * 31 + 6151 * ((k : Int) + 1)) * 40692 % 2147483399 = d
      have d1 : 0 ≤ d := by omega
      have d2 : d < 2147483399 := by omega
      obtain ⟨v, hv, ev⟩ := fin ((d * d + d / 31) % 2147483629)
      refine ⟨v, hv, ?_⟩
      rw [if_neg (by decide)]
      simp only [at_n, st_Seq, st_Set, ev_2, v_S, v_0, R.bind_ok, ev_C, mul_i (i := c) (j := 31) (.inr (by decide)), add_i, mul_i (i := 6151) (.inl (by decide)), mul_i (j := 40692) (.inr (by decide)), mod_i (j := 2147483399) (by decide), hd, wr_o, List.set_cons_succ, List.set_cons_zero, st_Ret,
        mul_i (i := d) (j := d) (.inl (by omega)), fdiv_i (j := 31) (by decide) (by decide), mod_i (j := 2147483629) (by decide), mod_i hm', ev]
  · exact absurd q (by decide)

/-- an alarm: period, shift -/
abbrev A := Nat × Nat
def dA (a : A) : D := .tup [.int (a.1 : Nat), .int (a.2 : Nat)]
def okA (a : A) : Prop := 1 ≤ a.1 ∧ a.1 ≤ 60 ∧ a.2 < a.1
def dR (r : List A) : D := .tup (r.map dA)
def okR (r : List A) : Prop := r.length ≤ 6 ∧ ∀ a ∈ r, okA a
theorem lim2 {n : Nat} (h : n ≤ 1000000 := by decide) : n ≤ lim := Nat.le_trans h (by decide)
theorem is_int_ok {v a b : Int} : PP.d_is_int [.int v, .int a, .int b] = .ok (.bl (decide (a ≤ v) && decide (v ≤ b))) := by
  by_cases h1 : a ≤ v <;> by_cases h2 : v ≤ b <;> simp [PP.d_is_int, PP.s_is_int, D.isI, h1, h2]
theorem is_alarm_ok {p s : Int} : PP.d_is_alarm [.tup [.int p, .int s]] = .ok (.bl (decide (1 ≤ p) && decide (p ≤ 60) && (decide (0 ≤ s) && decide (s ≤ p - 1)))) := by
  by_cases h1 : 1 ≤ p <;> by_cases h2 : p ≤ 60 <;> simp [PP.d_is_alarm, PP.s_is_alarm, D.isI, is_int_ok, h1, h2]
theorem is_alarm_A {a : A} (h : okA a) : PP.d_is_alarm [dA a] = .ok (.bl true) := by
  obtain ⟨h1, h2, h3⟩ := h
  rw [dA, is_alarm_ok]
  have a1 : (1 : Int) ≤ a.1 := by omega
  have a2 : (a.1 : Int) ≤ 60 := by omega
  have a3 : (0 : Int) ≤ a.2 := by omega
  have a4 : (a.2 : Int) ≤ a.1 - 1 := by omega
  simp only [decide_eq_true a1, decide_eq_true a2, decide_eq_true a3, decide_eq_true a4, Bool.and_self]
theorem check_alarm_A {a : A} (h : okA a) : PP.d_check_alarm [dA a] = .ok .non := by
  simp [PP.d_check_alarm, PP.s_check_alarm, is_alarm_A h]
theorem check_two_A {a b : A} (h : okA a) (g : okA b) : PP.d_check_two [dA a, dA b] = .ok .non := by
  simp [PP.d_check_two, PP.s_check_two, check_alarm_A h, check_alarm_A g]
theorem check_time_N {t : Int} (h : 0 ≤ t) : PP.d_check_time [.int t] = .ok .non := by
  have : ¬ t < 0 := by omega
  simp [PP.d_check_time, PP.s_check_time, D.isI, this]
theorem is_row_R {r : List A} (h : okR r) : PP.d_is_row [dR r] = .ok (.bl true) := by
  have hl : ((r.length : Int) ≤ 6) := by have := h.1; omega
  have hc : compL (gN 1) tYesF (eF PP.d_is_alarm (aC (eV 1) aN)) [some (dR r), none] (r.map dA) = .ok (r.map fun _ => .bl true) :=
    compL_all dA (fun _ => .bl true) r fun a ha => ⟨_, rfl, by simp [is_alarm_A (h.2 a ha)]⟩
  have hb := bAll_map (f := fun _ : A => true) (xs := r)
  rw [dR] at hc ⊢
  simp only [PP.d_is_row, PP.s_is_row, body_eq, List.map_cons, List.map_nil, List.replicate, List.cons_append, List.nil_append, st_Ret, ev_And, ev_1, v_0, v_S, R.bind_ok, D.isI, asB_b, if_true, ev_2, ev_F, av_C, av_N, bLen_t, List.length_map, ev_C, le_i, decide_eq_true hl, ev_Comp, iv_Items, items_t, wv_C, wv_0, List.set_cons_succ, List.set_cons_zero, hc, hb, wr_o]
  simp
theorem check_row_R {r : List A} (h : okR r) : PP.d_check_row [dR r] = .ok .non := by
  simp [PP.d_check_row, PP.s_check_row, is_row_R h]
/-- rings at a time -/
def ringsAt (a : A) (t : Nat) : Bool := t % a.1 == a.2
theorem cast_mod {t p s : Nat} : decide ((t : Int) % (p : Int) = (s : Int)) = (t % p == s) := by
  rw [← Int.natCast_emod, Bool.eq_iff_iff]
  simp only [decide_eq_true_eq, beq_iff_eq]
  exact Int.ofNat_inj
theorem does_ring_A {a : A} (h : okA a) {t : Nat} : PP.d_does_ring [dA a, .int t] = .ok (.bl (ringsAt a t)) := by
  have h1 : (0 : Int) < a.1 := by have := h.1; omega
  simp only [PP.d_does_ring, PP.s_does_ring, dA, body_eq, List.map_cons, List.map_nil, List.replicate, List.append_nil, st_Ret, ev_2, v_S, v_0, ev_C, R.bind_ok, idx_t, at_0, at_1, mod_i h1, eq_i, wr_o, cast_mod, ringsAt]
theorem rings_A {a : A} (h : okA a) {t : Nat} : PP.d_rings [dA a, .int t] = .ok (.bl (ringsAt a t)) := by
  simp [PP.d_rings, PP.s_rings, check_alarm_A h, check_time_N (show (0 : Int) ≤ t by omega), does_ring_A h]
/-- the next ring -/
def nextRing (a : A) (t : Nat) : Int := t + ((a.2 : Int) - t) % a.1
theorem next_ring_A {a : A} (h : okA a) {t : Nat} : PP.d_next_ring [dA a, .int t] = .ok (.int (nextRing a t)) := by
  have h1 : (0 : Int) < a.1 := by have := h.1; omega
  have hc := check_alarm_A h
  simp only [PP.d_next_ring, PP.s_next_ring, body_eq, List.map_cons, List.map_nil, List.replicate, List.append_nil, st_Seq, st_Drop, ev_F, av_C, av_N, v_0, v_S, R.bind_ok, hc, wr_o, at_n, check_time_N (show (0 : Int) ≤ t by omega)]
  simp only [dA, st_Ret, ev_2, v_S, v_0, ev_C, R.bind_ok, idx_t, at_0, at_1, sub_i, mod_i h1, add_i, wr_o, nextRing]
/-! which ring -/
def heard (r : List A) (t : Nat) : List Nat := (List.range r.length).filter fun i => match r[i]? with
  | some a => ringsAt a t
  | none => false
theorem zip_upto {α : Type} (inj : α → D) (r : List α) : zipD (upto 0 (r.map inj).length) (r.map inj) = ((List.range r.length).zip r).map fun x => D.tup [.int (x.1 : Nat), inj x.2] := by
  rw [zipD, upto_map, List.length_map, List.zip_map, List.map_map]
  apply List.map_congr_left
  intro x _
  simp
theorem filt_zip (r : List A) (q : A → Bool) : (((List.range r.length).zip r).filter fun x => q x.2).map Prod.fst = (List.range r.length).filter fun i => match r[i]? with
  | some a => q a
  | none => false := by
  have : ∀ (k : Nat) (l : List A), ((((List.range l.length).map (· + k)).zip l).filter fun x => q x.2).map Prod.fst = ((List.range l.length).filter fun i => match l[i]? with
    | some a => q a
    | none => false).map (· + k) := by
    intro k l
    induction l generalizing k with
    | nil => rfl
    | cons x xs ih =>
      have ih := ih (k + 1)
      have e1 : (List.range (x :: xs).length).map (· + k) = k :: (List.range xs.length).map (· + (k + 1)) := by
        rw [List.length_cons, List.range_succ_eq_map, List.map_cons, List.map_map]
        congr 1
        · simp
        · apply List.map_congr_left; intro i _; simp only [Function.comp]; omega
      rw [e1, List.zip_cons_cons, List.length_cons, List.range_succ_eq_map]
      have e2 : (List.filter (fun i => match (x :: xs)[i]? with | some a => q a | none => false) ((List.range xs.length).map Nat.succ)) = ((List.range xs.length).filter fun i => match xs[i]? with | some a => q a | none => false).map Nat.succ := by
        rw [List.filter_map]
        congr 1
      have e3 : (fun x : Nat => x + k) ∘ Nat.succ = fun x => x + (k + 1) := by funext i; simp only [Function.comp]; omega
      cases hx : q x with
      | true =>
        rw [List.filter_cons_of_pos (by simpa using hx), List.filter_cons_of_pos (by simpa using hx), List.map_cons, List.map_cons, ih, e2, List.map_map, e3]
        simp
      | false =>
        rw [List.filter_cons_of_neg (by simp [hx]), List.filter_cons_of_neg (by simp [hx]), ih, e2, List.map_map, e3]
  have := this 0 r
  simpa using this
theorem find_ringing_R {r : List A} (h : okR r) {t : Nat} : PP.d_find_ringing [dR r, .int t] = .ok (dN (heard r t)) := by
  have hc : compL (gT (gsC (gN 2) (gsC (gN 3) gs0))) (tV (eF PP.d_does_ring (aC (eV 3) (aC (eV 1) aN)))) (eV 2) [some (dR r), some (.int t), none, none] (((List.range r.length).zip r).map fun x => D.tup [.int (x.1 : Nat), dA x.2])
      = .ok ((((List.range r.length).zip r).filter fun x => ringsAt x.2 t).map fun x => .int (x.1 : Nat)) :=
    compL_ok (α := Nat × A) (fun x => D.tup [.int (x.1 : Nat), dA x.2]) (fun x => ringsAt x.2 t) (fun x => .int (x.1 : Nat)) _ fun x hx => by
      have hx2 : x.2 ∈ r := (List.of_mem_zip (show (x.1, x.2) ∈ _ from hx)).2
      exact ⟨_, rfl, by simp [does_ring_A (h.2 _ hx2)], fun _ => rfl⟩
  rw [heard, ← filt_zip r fun a => ringsAt a t, dN, List.map_map]
  simp only [PP.d_find_ringing, PP.s_find_ringing, body_eq, List.map_cons, List.map_nil, List.replicate, List.cons_append, List.nil_append, st_Ret, ev_Comp, iv_A, av_C, av_N, v_0, v_S, R.bind_ok, dR, enum_t, zip_upto, wv_C, wv_0, List.set_cons_succ, List.set_cons_zero]
  rw [dR] at hc
  rw [hc]
  rfl
theorem ringing_R {r : List A} (h : okR r) {t : Nat} : PP.d_ringing [dR r, .int t] = .ok (dN (heard r t)) := by
  simp [PP.d_ringing, PP.s_ringing, check_row_R h, check_time_N (show (0 : Int) ≤ t by omega), find_ringing_R h]
@[simp] theorem okD_dN {xs : List Nat} : okD (dN xs) := okD_ints (f := fun k : Nat => (k : Int))
theorem law_heard_R {r : List A} (h : okR r) {t : Nat} : PP.d__law_heard [dR r, .int t] = .ok (dN (heard r t)) := by
  have hl : r.length ≤ lim := lim2 (by have := h.1; omega)
  have hc : compL (gN 2) (tV (e2 D.eq (e2 D.mod (eV 1) (e2 D.idx (e2 D.idx (eV 0) (eV 2)) (eC (.int 0)))) (e2 D.idx (e2 D.idx (eV 0) (eV 2)) (eC (.int 1))))) (eV 2) [some (.tup (r.map dA)), some (.int t), none] ((List.range r.length).map fun k => .int (k : Nat))
      = .ok (((List.range r.length).filter fun i => match r[i]? with
        | some a => ringsAt a t
        | none => false).map fun k => .int (k : Nat)) :=
    compL_ok (fun k : Nat => .int (k : Nat)) _ (fun k : Nat => .int (k : Nat)) _ fun i hi => by
      have hi' : i < r.length := List.mem_range.mp hi
      have hg : D.at? (r.map dA) (i : Int) = .ok (dA r[i]) := at_nat (by simp [hi'])
      have h1 : (0 : Int) < (r[i]).1 := by have := (h.2 r[i] (List.getElem_mem hi')).1; omega
      refine ⟨_, rfl, ?_, fun _ => by simp⟩
      simp only [tv_V, ev_2, v_S, v_0, List.set_cons_succ, List.set_cons_zero, R.bind_ok, idx_t, hg, ev_C, dA, at_0, at_1, mod_i h1, eq_i, cast_mod, asB_b, List.getElem?_eq_getElem hi', ringsAt]
  simp only [PP.d__law_heard, PP.s__law_heard, body_eq, List.map_cons, List.map_nil, List.replicate, List.cons_append, List.nil_append, st_Ret, ev_Comp, iv_A, av_C, av_N, v_0, v_S, R.bind_ok, dR, ev_F, bLen_t, List.length_map, rngA_1, wv_C, wv_0, List.set_cons_succ, List.set_cons_zero]
  rw [rng_nat hl, R.bind_ok, hc]
  rfl
end RT

namespace RT
/-! S3: cycles, times, counts, drawn rows -/
theorem divisor_loop : ∀ (n a b : Nat), b < n → loopW (tV (e2 D.gt (eV 1) (eC (.int 0)))) PP.b_divisor_1 n [some (.int a), some (.int b)] = .nx [some (.int (Nat.gcd a b : Nat)), some (.int (0 : Nat))]
  | 0, _, _, h => absurd h (by omega)
  | n + 1, a, b, h => by
    by_cases hb : 0 < b
    · have hb' : (0 : Int) < b := by omega
      have ih := divisor_loop n b (a % b) (by have := Nat.mod_lt a hb; omega)
      have hg : Nat.gcd b (a % b) = Nat.gcd a b := by rw [Nat.gcd_comm b, ← Nat.gcd_rec, Nat.gcd_comm]
      rw [hg] at ih
      simp only [loopW, PP.b_divisor_1, tV, ev_2, v_S, v_0, ev_C, R.bind_ok, gt_i, asB_b, wr_o, decide_eq_true hb', if_true, st_Par2, mod_i hb', sto_f, Option.bind_some, List.set_cons_succ, List.set_cons_zero, outO_s, at_n]
      rw [← Int.natCast_emod]
      exact ih
    · have : b = 0 := by omega
      subst this
      simp [loopW]
theorem divisor_ok {a b : Nat} (hb : b < 1000000) : PP.d_divisor [.int a, .int b] = .ok (.int (Nat.gcd a b : Nat)) := by
  have := divisor_loop 1000000 a b hb
  simp only [PP.d_divisor, PP.s_divisor, body_eq, List.map_cons, List.map_nil, List.replicate, List.append_nil, st_Seq, st_While, show fuel = 1000000 from rfl, this, at_n, st_Ret, v_0, wr_o]
/-- the cycle -/
def cyc (r : List A) : Nat := r.foldl (fun c a => Nat.lcm c a.1) 1
theorem lcm_div (c p : Nat) : c / Nat.gcd c p * p = Nat.lcm c p := by
  rw [Nat.lcm, Nat.mul_div_right_comm (Nat.gcd_dvd_left c p)]
theorem find_cycle_R {r : List A} (h : ∀ a ∈ r, okA a) : PP.d_find_cycle [dR r] = .ok (.int (cyc r : Nat)) := by
  have key := loopF_fold (g := gT (gsC (gN 2) (gsC (gN 3) gs0))) (b := PP.b_find_cycle_1) dA
    (fun c ρ => ∃ x y, ρ = [some (dR r), some (.int (c : Nat)), x, y]) (fun c a => Nat.lcm c a.1) r 1 [some (dR r), some (.int 1), none, none] ⟨_, _, rfl⟩ (by
      rintro a ha c ρ ⟨x, y, rfl⟩
      obtain ⟨h1, h2, h3⟩ := h a ha
      refine ⟨_, [some (dR r), some (.int (Nat.lcm c a.1 : Nat)), some (.int a.1), some (.int a.2)], rfl, ?_, ⟨_, _, rfl⟩⟩
      have g1 : (0 : Int) < (Nat.gcd c a.1 : Nat) := by have := Nat.gcd_pos_of_pos_right c h1; omega
      have g2 : ((Nat.gcd c a.1 : Nat) : Int) < 2 ^ 64 := by have := Nat.le_of_dvd h1 (Nat.gcd_dvd_right c a.1); omega
      simp only [PP.b_find_cycle_1, st_Set, ev_2, v_S, v_0, ev_F, av_C, av_N, R.bind_ok, List.set_cons_succ, List.set_cons_zero, divisor_ok (show a.1 < 1000000 by omega), fdiv_i g1 g2, mul_i (i := (c : Int) / (Nat.gcd c a.1 : Nat)) (j := a.1) (.inr (by omega)), wr_o]
      rw [← lcm_div]
      simp)
  obtain ⟨ρ', e1, x, y, e2⟩ := key
  subst e2
  simp only [PP.d_find_cycle, PP.s_find_cycle, body_eq, List.map_cons, List.map_nil, List.replicate, List.cons_append, List.nil_append, st_Seq, st_Set, ev_C, wr_o, List.set_cons_succ, List.set_cons_zero, at_n, st_For, iv_Items, v_0, R.bind_ok]
  rw [dR, items_t, wr_o]
  rw [dR] at e1
  rw [e1]
  simp [cyc]
theorem cycle_R {r : List A} (h : okR r) : PP.d_cycle [dR r] = .ok (.int (cyc r : Nat)) := by
  simp [PP.d_cycle, PP.s_cycle, check_row_R h, find_cycle_R h.2]
theorem cycle_loop {p : Nat} {c : Nat} (hp : 0 < p) {o0 o3 : Option D} (h1000 : p < 1000000) :
    ∃ ρ', loopW (tV (e2 D.ne (e2 D.mod (eV 4) (eV 2)) (eC (.int 0)))) PP.b__law_cycle_1 1000000 [o0, some (.int c), some (.int p), o3, some (.int c)] = .nx ρ' ∧ ρ' = [o0, some (.int c), some (.int p), o3, some (.int (Nat.lcm c p : Nat))] := by
  have hg := Nat.gcd_pos_of_pos_right c hp
  have hq : Nat.lcm c p = c * (p / Nat.gcd c p) := by
    rw [Nat.lcm, Nat.mul_div_assoc _ (Nat.gcd_dvd_right c p)]
  have hq0 : 1 ≤ p / Nat.gcd c p := Nat.div_pos (Nat.le_of_dvd hp (Nat.gcd_dvd_right c p)) hg
  have hq1 : p / Nat.gcd c p ≤ p := Nat.div_le_self _ _
  refine loopW_inv (fun m ρ => ∃ j, 1 ≤ j ∧ j + m = p / Nat.gcd c p ∧ ρ = [o0, some (.int c), some (.int p), o3, some (.int (c * j : Nat))]) _ ?_ 1000000 (p / Nat.gcd c p - 1) _ (by omega) ⟨1, by omega, by omega, by simp⟩
  rintro m ρ ⟨j, h1, h2, rfl⟩
  have hp' : (0 : Int) < p := by omega
  by_cases hd : (c * j) % p = 0
  · refine .inl ⟨?_, ?_⟩
    · have : ((c * j : Nat) : Int) % (p : Int) = 0 := by rw [← Int.natCast_emod, hd]; rfl
      simp only [tv_V, ev_2, v_S, v_0, R.bind_ok, mod_i hp', ev_C, ne_i, this, asB_b]
      rfl
    · have d1 : Nat.lcm c p ∣ c * j := Nat.lcm_dvd (Nat.dvd_mul_right c j) (Nat.dvd_of_mod_eq_zero hd)
      have : c * j = Nat.lcm c p := by
        by_cases hc : c = 0
        · subst hc; simp
        · have hpos : 0 < c * j := Nat.mul_pos (by omega) (by omega)
          have l1 := Nat.le_of_dvd hpos d1
          have l2 : c * j ≤ c * (p / Nat.gcd c p) := Nat.mul_le_mul_left c (by omega)
          rw [← hq] at l2
          omega
      rw [this]
  · refine .inr ⟨?_, ?_⟩
    · have : ¬ ((c * j : Nat) : Int) % (p : Int) = 0 := by rw [← Int.natCast_emod]; omega
      simp only [tv_V, ev_2, v_S, v_0, R.bind_ok, mod_i hp', ev_C, ne_i, this, asB_b]
      rfl
    · have : m ≠ 0 := by
        intro e
        subst e
        apply hd
        have : c * j = Nat.lcm c p := by rw [hq]; congr 1
        rw [this]
        exact Nat.mod_eq_zero_of_dvd (Nat.dvd_lcm_right c p)
      refine ⟨m - 1, _, by omega, ?_, ⟨j + 1, by omega, by omega, rfl⟩⟩
      simp only [PP.b__law_cycle_1, st_Set, ev_2, v_S, v_0, R.bind_ok, add_i, wr_o, List.set_cons_succ, List.set_cons_zero, Nat.mul_add, Nat.mul_one, Int.natCast_add]
theorem law_cycle_R {r : List A} (h : ∀ a ∈ r, okA a) : PP.d__law_cycle [dR r] = .ok (.int (cyc r : Nat)) := by
  have key := loopF_fold (g := gT (gsC (gN 2) (gsC (gN 3) gs0))) (b := PP.b__law_cycle_2) dA
    (fun c ρ => ∃ x y z, ρ = [some (dR r), some (.int (c : Nat)), x, y, z]) (fun c a => Nat.lcm c a.1) r 1 [some (dR r), some (.int 1), none, none, none] ⟨_, _, _, rfl⟩ (by
      rintro a ha c ρ ⟨x, y, z, rfl⟩
      obtain ⟨h1, h2, h3⟩ := h a ha
      refine ⟨_, [some (dR r), some (.int (Nat.lcm c a.1 : Nat)), some (.int a.1), some (.int a.2), some (.int (Nat.lcm c a.1 : Nat))], rfl, ?_, ⟨_, _, _, rfl⟩⟩
      obtain ⟨ρ', e1, e2⟩ := cycle_loop (p := a.1) (c := c) (o0 := some (dR r)) (o3 := some (.int a.2)) (by omega) (by omega)
      subst e2
      simp only [PP.b__law_cycle_2, st_Seq, st_Set, v_S, v_0, wr_o, List.set_cons_succ, List.set_cons_zero, at_n, st_While, show fuel = 1000000 from rfl]
      rw [e1]
      simp)
  obtain ⟨ρ', e1, x, y, z, e2⟩ := key
  subst e2
  simp only [PP.d__law_cycle, PP.s__law_cycle, body_eq, List.map_cons, List.map_nil, List.replicate, List.cons_append, List.nil_append, st_Seq, st_Set, ev_C, wr_o, List.set_cons_succ, List.set_cons_zero, at_n, st_For, iv_Items, v_0, R.bind_ok]
  rw [dR, items_t, wr_o]
  rw [dR] at e1
  rw [e1]
  simp [cyc]
/-! times -/
/-- the times from s on, n of them, at which one rings -/
def timesFrom (r : List A) (s n : Nat) : List Nat := ((List.range n).filter fun k => !(heard r (s + k)).isEmpty).map fun k => s + k
theorem rng_NN {s e : Nat} (h1 : s < 2 ^ 62) (h2 : e < 2 ^ 62) (h : e - s ≤ 1000000) : rng s e = .ok ((List.range (e - s)).map fun k => .int ((s + k : Nat) : Int)) := by
  rw [rng_ok' (by omega) (by omega) (by omega) (by omega) (lim2 (by omega)), upto_map]
  have : ((e : Int) - s).toNat = e - s := by omega
  rw [this]
  rfl
theorem heard_ne {r : List A} {t : Nat} : D.ne (dN (heard r t)) (.lst []) = .ok (.bl (!(heard r t).isEmpty)) := by
  rw [dN, ne_nil okD_dN]
  simp
theorem ring_times_R {r : List A} (h : okR r) {s e : Nat} (h1 : s < 2 ^ 62) (h2 : e < 2 ^ 62) (hl : e ≤ s + 1000) : PP.d_ring_times [dR r, .int s, .int e] = .ok (dN (timesFrom r s (e - s))) := by
  have hc : compL (gN 3) (tV (e2 D.ne (eF PP.d_find_ringing (aC (eV 0) (aC (eV 3) aN))) (eLst aN))) (eV 3) [some (dR r), some (.int s), some (.int e), none] ((List.range (e - s)).map fun k => .int ((s + k : Nat) : Int))
      = .ok (((List.range (e - s)).filter fun k => !(heard r (s + k)).isEmpty).map fun k => .int ((s + k : Nat) : Int)) :=
    compL_ok _ _ _ _ fun k hk => ⟨_, rfl, by simp only [tv_V, ev_2, ev_F, av_C, av_N, v_S, v_0, R.bind_ok, List.set_cons_succ, List.set_cons_zero, find_ringing_R h, ev_Lst, List.length_nil, Nat.zero_le, if_true, heard_ne, asB_b], fun _ => rfl⟩
  have hn : ¬ (1000 : Int) < (e : Int) - s := by omega
  simp only [PP.d_ring_times, PP.s_ring_times, body_eq, List.map_cons, List.map_nil, List.replicate, List.cons_append, List.nil_append, st_Seq, st_Drop, ev_F, av_C, av_N, v_0, v_S, R.bind_ok, check_row_R h, check_time_N (show (0 : Int) ≤ s by omega), check_time_N (show (0 : Int) ≤ e by omega), wr_o, at_n, st_If, tv_V, ev_2, ev_C, sub_i, gt_i, asB_b, decide_eq_false hn, Bool.false_eq_true, if_false, st_Nx, st_Ret, ev_Comp, iv_A, rngA_2]
  rw [rng_NN h1 h2 (by omega)]
  simp only [R.bind_ok, wv_C, wv_0, List.set_cons_succ, List.set_cons_zero, hc, timesFrom, dN, List.map_map]
  rfl
/-! counts -/
theorem heard_len (r : List A) (t : Nat) : (heard r t).length = r.countP fun a => ringsAt a t := by
  rw [heard, ← filt_zip r fun a => ringsAt a t, List.length_map, ← List.countP_eq_length_filter]
  have : ∀ (ks : List Nat) (l : List A), ks.length = l.length → ((ks.zip l).countP fun x => ringsAt x.2 t) = l.countP fun a => ringsAt a t := by
    intro ks l
    induction l generalizing ks with
    | nil => intro h; cases ks <;> simp_all
    | cons a l ih =>
      intro h
      cases ks with
      | nil => simp at h
      | cons k ks => simp only [List.zip_cons_cons, List.countP_cons, ih ks (by simpa using h)]
  exact this _ _ (by simp)
/-- rings of one alarm before a time -/
def ringsBefore (a : A) (e : Nat) : Nat := (e + (a.1 - 1 - a.2)) / a.1
theorem ringsBefore_succ {a : A} (h : okA a) (e : Nat) : ringsBefore a (e + 1) = ringsBefore a e + if ringsAt a e then 1 else 0 := by
  obtain ⟨h1, h2, h3⟩ := h
  have e1 : e + 1 + (a.1 - 1 - a.2) = e + (a.1 - 1 - a.2) + 1 := by omega
  rw [ringsBefore, ringsBefore, e1, Nat.succ_div]
  congr 1
  have : (a.1 ∣ e + (a.1 - 1 - a.2) + 1) ↔ ringsAt a e = true := by
    have e2 : e + (a.1 - 1 - a.2) + 1 = e + (a.1 - a.2) := by omega
    rw [e2, ringsAt, beq_iff_eq, Nat.dvd_iff_mod_eq_zero]
    have hlt := Nat.mod_lt e h1
    have hk := Nat.div_add_mod e a.1
    have e3 : (e + (a.1 - a.2)) % a.1 = (e % a.1 + (a.1 - a.2)) % a.1 := by rw [Nat.add_mod, Nat.add_mod (e % a.1)]; simp
    rw [e3]
    by_cases hc : e % a.1 < a.2
    · rw [Nat.mod_eq_of_lt (by omega)]; omega
    · rw [show e % a.1 + (a.1 - a.2) = (e % a.1 - a.2) + a.1 by omega, Nat.add_mod_right, Nat.mod_eq_of_lt (by omega)]; omega
  simp only [this]
theorem ringsBefore_zero {a : A} (h : okA a) : ringsBefore a 0 = 0 := by
  obtain ⟨h1, h2, h3⟩ := h
  exact Nat.div_eq_of_lt (by omega)
theorem ringsBefore_int {a : A} (h : okA a) (e : Nat) : ((e : Int) - a.2 + a.1 - 1) / a.1 = (ringsBefore a e : Nat) := by
  obtain ⟨h1, h2, h3⟩ := h
  rw [ringsBefore, Int.natCast_ediv]
  congr 1
  omega
/-- rings of a row before a time -/
def countR (r : List A) (e : Nat) : Nat := (r.map fun a => ringsBefore a e).sum
theorem countR_succ {r : List A} (h : ∀ a ∈ r, okA a) (e : Nat) : countR r (e + 1) = countR r e + (heard r e).length := by
  rw [heard_len]
  induction r with
  | nil => rfl
  | cons a r ih =>
    have ih := ih fun b hb => h b (by simp [hb])
    simp only [countR, List.map_cons, List.sum_cons, List.countP_cons] at ih ⊢
    rw [ih, ringsBefore_succ (h a (by simp))]
    omega
theorem countR_zero {r : List A} (h : ∀ a ∈ r, okA a) : countR r 0 = 0 := by
  induction r with
  | nil => rfl
  | cons a r ih =>
    have ih := ih fun b hb => h b (by simp [hb])
    simp only [countR, List.map_cons, List.sum_cons] at ih ⊢
    rw [ih, ringsBefore_zero (h a (by simp))]
theorem countR_sum {r : List A} (h : ∀ a ∈ r, okA a) (e : Nat) : countR r e = ((List.range e).map fun t => (heard r t).length).sum := by
  induction e with
  | zero => rw [countR_zero h]; rfl
  | succ e ih => rw [countR_succ h, ih, List.range_succ]; simp
theorem natSum_int {α : Type} (f : α → Nat) : ∀ l : List α, (l.map fun a => ((f a : Nat) : Int)).sum = ((l.map f).sum : Nat)
  | [] => rfl
  | a :: l => by simp [natSum_int f l]
theorem count_rings_R {r : List A} (h : okR r) {e : Nat} : PP.d_count_rings [dR r, .int e] = .ok (.int (countR r e : Nat)) := by
  have hc : compL (gT (gsC (gN 2) (gsC (gN 3) gs0))) tYesF (e2 D.fdiv (e2 D.sub (e2 D.add (e2 D.sub (eV 1) (eV 3)) (eV 2)) (eC (.int 1))) (eV 2)) [some (dR r), some (.int e), none, none] (r.map dA)
      = .ok (r.map fun a => .int (ringsBefore a e : Nat)) :=
    compL_all _ _ _ fun a ha => ⟨_, rfl, by
      have ho := h.2 a ha
      have h0 : (0 : Int) < a.1 := by have := ho.1; omega
      simp only [ev_2, v_S, v_0, R.bind_ok, sub_i, add_i, ev_C, List.set_cons_succ, List.set_cons_zero, fdiv_i h0 (by have := ho.2.1; omega), ringsBefore_int ho]⟩
  have hb := bSum_map (f := fun a : A => ((ringsBefore a e : Nat) : Int)) (xs := r)
  simp only [PP.d_count_rings, PP.s_count_rings, body_eq, List.map_cons, List.map_nil, List.replicate, List.cons_append, List.nil_append, st_Seq, st_Drop, ev_F, av_C, av_N, v_0, v_S, R.bind_ok, check_row_R h, check_time_N (show (0 : Int) ≤ e by omega), wr_o, at_n, st_Ret, ev_Comp, iv_Items, wv_C, wv_0, List.set_cons_succ, List.set_cons_zero]
  rw [show D.items (dR r) = .ok (r.map dA) from rfl]
  simp only [R.bind_ok, hc, hb, wr_o, countR, natSum_int]
/-! drawn -/
theorem at_lit {xs : List Int} {k : Nat} (h : k < xs.length) : D.at? (xs.map .int) (k : Int) = .ok (.int xs[k]) := at_nat (by simp [h])
theorem eTup_ok {ρ : Env} {a : AF} {xs : List D} (h : a ρ = .ok xs) (hl : xs.length ≤ lim) : eTup a ρ = .ok (.tup xs) := by simp [h, hl]
theorem eLst_ok {ρ : Env} {a : AF} {xs : List D} (h : a ρ = .ok xs) (hl : xs.length ≤ lim) : eLst a ρ = .ok (.lst xs) := by simp [h, hl]
def periodsB : List Nat := [1, 2, 3, 4, 6, 6, 8, 9, 10, 12, 5, 7]
theorem alarm_ok {ns : List Int} (hn : ns.length ≤ 63) (k : Nat) (hk : k < 999999 := by omega) : ∃ a : A, okA a ∧ a.1 ∈ periodsB ∧ PP.d__law_alarm_b [.scr ns, .int k] = .ok (dA a) := by
  obtain ⟨v, hv, e⟩ := pick_ok hn k 12 (by decide) (by omega)
  have hp : ∀ v : Nat, v < 12 → ∃ p : Nat, 1 ≤ p ∧ p ≤ 60 ∧ p ∈ periodsB ∧ D.at? ([1, 2, 3, 4, 6, 6, 8, 9, 10, 12, 5, 7].map D.int) (v : Int) = .ok (.int p) := by
    intro v hv
    have hv' : v < periodsB.length := hv
    refine ⟨periodsB[v], ?_, ?_, List.getElem_mem hv', at_nat ?_⟩
    · have : ∀ p ∈ periodsB, 1 ≤ p := by decide
      exact this _ (List.getElem_mem hv')
    · have : ∀ p ∈ periodsB, p ≤ 60 := by decide
      exact this _ (List.getElem_mem hv')
    · rw [show ([1, 2, 3, 4, 6, 6, 8, 9, 10, 12, 5, 7].map D.int) = periodsB.map fun p : Nat => D.int p from rfl]
      simp [hv']
  obtain ⟨p, h1, h2, h4, h3⟩ := hp v hv
  obtain ⟨s, hs, e'⟩ := pick_ok hn (k + 1) p (by omega) (by omega)
  refine ⟨(p, s), ⟨h1, h2, hs⟩, h4, ?_⟩
  have e : PP.d__law_pick [.scr ns, .int k, .int 12] = .ok (.int v) := e
  have e' : PP.d__law_pick [.scr ns, .int ((k : Int) + 1), .int p] = .ok (.int s) := e'
  have h3 : D.at? [D.int 1, D.int 2, D.int 3, D.int 4, D.int 6, D.int 6, D.int 8, D.int 9, D.int 10, D.int 12, D.int 5, D.int 7] (v : Int) = .ok (.int p) := h3
  simp only [PP.d__law_alarm_b, PP.s__law_alarm_b, body_eq, List.map_cons, List.map_nil, List.replicate, List.cons_append, List.nil_append, st_Seq, st_Set, ev_2, ev_Tup, av_C, av_N, ev_C, R.bind_ok, ev_F, v_0, v_S, e]
  simp only [List.length_cons, List.length_nil, Nat.reduceAdd, lim2 (n := 12), if_true, R.bind_ok, idx_t, h3, wr_o, List.set_cons_succ, List.set_cons_zero, at_n, st_Ret, ev_Tup, av_C, av_N, v_0, v_S, ev_F, ev_2, add_i, ev_C, e', lim2 (n := 2), dA]
theorem row_ok {ns : List Int} (hn : ns.length ≤ 63) (k m : Nat) (hm : m ≤ 6) (hk : k < 999900 := by omega) : ∃ r : List A, okR r ∧ r.length ≤ m ∧ (∀ a ∈ r, a.1 ∈ periodsB) ∧ PP.d__law_row_b [.scr ns, .int k, .int m] = .ok (dR r) := by
  obtain ⟨n, hn', e⟩ := pick_ok hn k (m + 1) (by omega) (by omega)
  have ch : ∀ i : Nat, ∃ a : A, i < n → okA a ∧ a.1 ∈ periodsB ∧ PP.d__law_alarm_b [.scr ns, .int ((k + 1 + 2 * i : Nat) : Int)] = .ok (dA a) := fun i => by
    by_cases hi : i < n
    · obtain ⟨a, h1, h2, h3⟩ := alarm_ok hn (k + 1 + 2 * i) (by omega)
      exact ⟨a, fun _ => ⟨h1, h2, h3⟩⟩
    · exact ⟨(1, 0), fun h => absurd h hi⟩
  let fa : Nat → A := fun i => Classical.choose (ch i)
  have hfa : ∀ i, i < n → okA (fa i) ∧ (fa i).1 ∈ periodsB ∧ PP.d__law_alarm_b [.scr ns, .int ((k + 1 + 2 * i : Nat) : Int)] = .ok (dA (fa i)) := fun i => Classical.choose_spec (ch i)
  refine ⟨(List.range n).map fa, ⟨by simp; omega, fun a ha => ?_⟩, by simp; omega, fun a ha => ?_, ?_⟩
  · obtain ⟨i, hi, rfl⟩ := List.mem_map.mp ha
    exact (hfa i (List.mem_range.mp hi)).1
  · obtain ⟨i, hi, rfl⟩ := List.mem_map.mp ha
    exact (hfa i (List.mem_range.mp hi)).2.1
  have hc : compL (gN 3) tYesF (eF PP.d__law_alarm_b (aC (eV 0) (aC (e2 D.add (e2 D.add (eV 1) (eC (.int 1))) (e2 D.mul (eC (.int 2)) (eV 3))) aN))) [some (.scr ns), some (.int k), some (.int m), none] ((List.range n).map fun i => .int (i : Nat))
      = .ok ((List.range n).map fun i => dA (fa i)) :=
    compL_all _ _ _ fun i hi => ⟨_, rfl, by
      have := (hfa i (List.mem_range.mp hi)).2.2
      have h2 : (k : Int) + 1 + 2 * i = ((k + 1 + 2 * i : Nat) : Int) := by omega
      simp only [ev_F, av_C, av_N, v_S, v_0, R.bind_ok, List.set_cons_succ, List.set_cons_zero, ev_2, add_i, ev_C, mul_i (i := 2) (.inl (by decide)), h2, this]⟩
  have e : PP.d__law_pick [.scr ns, .int k, .int ((m : Int) + 1)] = .ok (.int n) := e
  simp only [PP.d__law_row_b, PP.s__law_row_b, body_eq, List.map_cons, List.map_nil, List.replicate, List.cons_append, List.nil_append, st_Ret, ev_F, av_C, av_N, ev_Comp, iv_A, v_0, v_S, R.bind_ok, ev_2, add_i, ev_C, e, rngA_1]
  rw [rng_nat (lim2 (by omega))]
  simp only [R.bind_ok, wv_C, wv_0, List.set_cons_succ, List.set_cons_zero, hc, bTuple_l, wr_o, dR, List.map_map]
  rfl
end RT

namespace RT
/-! S4: pairs -/
theorem bez (a b : Nat) : ∃ x y : Int, (a : Int) * x + b * y = (Nat.gcd a b : Nat) := by
  induction a, b using Nat.gcd.induction with
  | H0 n => exact ⟨0, 1, by simp⟩
  | H1 m n hm ih =>
    obtain ⟨x, y, h⟩ := ih
    refine ⟨y - (n / m : Nat) * x, x, ?_⟩
    rw [Nat.gcd_rec m n, ← h]
    have hd : (n : Int) = m * (n / m : Nat) + (n % m : Nat) := by
      have := Nat.div_add_mod n m
      have h2 : ((m * (n / m) + n % m : Nat) : Int) = n := by rw [this]
      rw [← h2]; simp
    rw [Int.mul_sub]
    conv => lhs; arg 2; rw [hd]
    rw [Int.add_mul, ← Int.mul_assoc]
    omega
/-- an alarm of any period -/
def okB (a : A) : Prop := 1 ≤ a.1 ∧ a.2 < a.1
theorem okA.b {a : A} (h : okA a) : okB a := ⟨h.1, h.2.2⟩
theorem rings_iff {a : A} {t : Nat} : ringsAt a t = true ↔ t % a.1 = a.2 := by rw [ringsAt, beq_iff_eq]
/-- whether two alarms meet -/
def meets (a b : A) : Bool := decide (((a.2 : Int) - b.2) % (Nat.gcd a.1 b.1 : Nat) = 0)
theorem meets_iff {a b : A} : meets a b = true ↔ ((Nat.gcd a.1 b.1 : Nat) : Int) ∣ (a.2 : Int) - b.2 := by
  rw [meets, decide_eq_true_eq, Int.dvd_iff_emod_eq_zero]
theorem meets_comm (a b : A) : meets a b = meets b a := by
  rw [Bool.eq_iff_iff, meets_iff, meets_iff, Nat.gcd_comm b.1 a.1]
  have : (b.2 : Int) - a.2 = -((a.2 : Int) - b.2) := by omega
  rw [this, Int.dvd_neg]
theorem meets_of {a b : A} {t : Nat} (ha : ringsAt a t = true) (hb : ringsAt b t = true) : meets a b = true := by
  rw [rings_iff] at ha hb
  rw [meets_iff]
  have d1 := Nat.gcd_dvd_left a.1 b.1
  have d2 := Nat.gcd_dvd_right a.1 b.1
  have e1 : (a.2 : Int) - t = a.1 * (-((t / a.1 : Nat) : Int)) := by
    have h := Nat.div_add_mod t a.1
    rw [ha] at h
    have : (a.1 : Int) * ((t / a.1 : Nat) : Int) = ((a.1 * (t / a.1) : Nat) : Int) := by simp
    rw [Int.mul_neg]; omega
  have e2 : (t : Int) - b.2 = b.1 * ((t / b.1 : Nat) : Int) := by
    have h := Nat.div_add_mod t b.1
    rw [hb] at h
    have : (b.1 : Int) * ((t / b.1 : Nat) : Int) = ((b.1 * (t / b.1) : Nat) : Int) := by simp
    omega
  have d3 : ((Nat.gcd a.1 b.1 : Nat) : Int) ∣ (a.2 : Int) - t := by rw [e1]; exact Int.dvd_mul_of_dvd_left (Int.natCast_dvd_natCast.mpr d1)
  have d4 : ((Nat.gcd a.1 b.1 : Nat) : Int) ∣ (t : Int) - b.2 := by rw [e2]; exact Int.dvd_mul_of_dvd_left (Int.natCast_dvd_natCast.mpr d2)
  have := Int.dvd_add d3 d4
  have e : (a.2 : Int) - t + (t - b.2) = (a.2 : Int) - b.2 := by omega
  rwa [e] at this
theorem ring_at {a : A} (j : Nat) (h : a.2 < a.1) : ringsAt a (a.2 + a.1 * j) = true := by
  rw [rings_iff, Nat.add_mul_mod_self_left, Nat.mod_eq_of_lt h]
theorem ring_form {a : A} {t : Nat} (h : ringsAt a t = true) : ∃ j, t = a.2 + a.1 * j := ⟨t / a.1, by
  have := Nat.div_add_mod t a.1
  rw [rings_iff.mp h] at this
  omega⟩
/-- they meet: within the other's period of the one's rings -/
theorem meets_ex {a b : A} (hb : okB b) (ha : a.2 < a.1) (h : meets a b = true) : ∃ j, j < b.1 ∧ ringsAt b (a.2 + a.1 * j) = true := by
  obtain ⟨x, y, e⟩ := bez a.1 b.1
  obtain ⟨k, hk⟩ := meets_iff.mp h
  have hp : (0 : Int) < b.1 := by have := hb.1; omega
  have h0 := Int.emod_nonneg (-(x * k)) (show (b.1 : Int) ≠ 0 by omega)
  have h1 := Int.emod_lt_of_pos (-(x * k)) hp
  refine ⟨((-(x * k)) % b.1).toNat, by omega, ?_⟩
  rw [rings_iff]
  have h2 : ((((-(x * k)) % b.1).toNat : Nat) : Int) = (-(x * k)) % b.1 := Int.toNat_of_nonneg h0
  have hd := Int.emod_add_mul_ediv (-(x * k)) b.1
  generalize hq : (-(x * k)) / (b.1 : Int) = q at hd
  have h3 : ((a.2 + a.1 * ((-(x * k)) % b.1).toNat : Nat) : Int) = b.2 + b.1 * (y * k - a.1 * q) := by
    rw [Int.natCast_add, Int.natCast_mul, h2]
    have e1 : (a.1 : Int) * ((-(x * k)) % b.1) = a.1 * (-(x * k)) - a.1 * (b.1 * q) := by
      rw [← Int.mul_sub]; congr 1; omega
    have e2 : (a.1 : Int) * (-(x * k)) = -((a.1 : Int) * x * k) := by rw [Int.mul_neg, Int.mul_assoc]
    have e3 : (b.1 : Int) * (y * k - a.1 * q) = (b.1 : Int) * y * k - a.1 * (b.1 * q) := by
      rw [Int.mul_sub, ← Int.mul_assoc, ← Int.mul_assoc, ← Int.mul_assoc, Int.mul_comm (b.1 : Int) a.1]
    have e4 : (a.1 : Int) * x * k + b.1 * y * k = (Nat.gcd a.1 b.1 : Nat) * k := by rw [← Int.add_mul, e]
    rw [e1, e2, e3]
    omega
  have h4 : ((a.2 + a.1 * ((-(x * k)) % b.1).toNat : Nat) : Int) % b.1 = b.2 := by
    rw [h3, Int.add_mul_emod_self_left, Int.emod_eq_of_lt (by omega) (by have := hb.2; omega)]
  rw [← Int.natCast_emod] at h4
  omega
/-- the first time at which both ring -/
def FirstB (a b : A) (t0 : Nat) : Prop := ringsAt a t0 = true ∧ ringsAt b t0 = true ∧ ∀ t < t0, ¬ (ringsAt a t = true ∧ ringsAt b t = true)
theorem lcm_pos' {a b : A} (ha : okB a) (hb : okB b) : 0 < Nat.lcm a.1 b.1 := Nat.lcm_pos ha.1 hb.1
theorem mod_shift {a : A} {t L : Nat} (h : a.1 ∣ L) : ringsAt a (t + L) = ringsAt a t := by
  obtain ⟨k, rfl⟩ := h
  rw [ringsAt, ringsAt, Nat.add_mul_mod_self_left]
theorem FirstB.lt {a b : A} {t0 : Nat} (ha : okB a) (hb : okB b) (h : FirstB a b t0) : t0 < Nat.lcm a.1 b.1 := by
  obtain ⟨h1, h2, h3⟩ := h
  by_cases hl : t0 < Nat.lcm a.1 b.1
  · exact hl
  · have hp := lcm_pos' ha hb
    have e : t0 = (t0 - Nat.lcm a.1 b.1) + Nat.lcm a.1 b.1 := by omega
    rw [e, mod_shift (Nat.dvd_lcm_left _ _)] at h1
    rw [e, mod_shift (Nat.dvd_lcm_right _ _)] at h2
    exact absurd ⟨h1, h2⟩ (h3 _ (by omega))
/-- they ring together exactly when the joined alarm rings -/
theorem FirstB.iff {a b : A} {t0 : Nat} (ha : okB a) (hb : okB b) (h : FirstB a b t0) (t : Nat) : (ringsAt a t = true ∧ ringsAt b t = true) ↔ ringsAt (Nat.lcm a.1 b.1, t0) t = true := by
  have hl := h.lt ha hb
  obtain ⟨h1, h2, h3⟩ := h
  constructor
  · rintro ⟨g1, g2⟩
    rw [rings_iff] at *
    have hh : t % a.1 = t0 % a.1 := by rw [g1, h1]
    have hh2 : t % b.1 = t0 % b.1 := by rw [g2, h2]
    have d1 : (a.1 : Int) ∣ (t : Int) - t0 := Int.dvd_of_emod_eq_zero (Int.emod_eq_emod_iff_emod_sub_eq_zero.mp (by rw [← Int.natCast_emod, ← Int.natCast_emod, hh]))
    have d2 : (b.1 : Int) ∣ (t : Int) - t0 := Int.dvd_of_emod_eq_zero (Int.emod_eq_emod_iff_emod_sub_eq_zero.mp (by rw [← Int.natCast_emod, ← Int.natCast_emod, hh2]))
    have hd : ((Nat.lcm a.1 b.1 : Nat) : Int) ∣ (t : Int) - t0 := by
      rw [← Int.natAbs_dvd_natAbs] at *
      simp only [Int.natAbs_natCast] at *
      exact Nat.lcm_dvd d1 d2
    show t % (Nat.lcm a.1 b.1) = t0
    have := Int.emod_eq_emod_iff_emod_sub_eq_zero.mpr (Int.emod_eq_zero_of_dvd hd)
    rw [← Int.natCast_emod, ← Int.natCast_emod, Nat.mod_eq_of_lt hl] at this
    omega
  · intro g
    obtain ⟨j, rfl⟩ := ring_form g
    refine ⟨?_, ?_⟩
    · show ringsAt a (t0 + Nat.lcm a.1 b.1 * j) = true
      rw [mod_shift (Nat.dvd_mul_right_of_dvd (Nat.dvd_lcm_left _ _) _)]
      exact h1
    · show ringsAt b (t0 + Nat.lcm a.1 b.1 * j) = true
      rw [mod_shift (Nat.dvd_mul_right_of_dvd (Nat.dvd_lcm_right _ _) _)]
      exact h2
/-! ordered lists -/
theorem sorted_ext : ∀ {l m : List Nat}, l.Pairwise (· < ·) → m.Pairwise (· < ·) → (∀ x, x ∈ l ↔ x ∈ m) → l = m
  | [], [], _, _, _ => rfl
  | [], y :: ys, _, _, h => by have := (h y).mpr (by simp); simp at this
  | x :: xs, [], _, _, h => by have := (h x).mp (by simp); simp at this
  | x :: xs, y :: ys, h1, h2, h => by
    have h1' := List.pairwise_cons.mp h1
    have h2' := List.pairwise_cons.mp h2
    have e : x = y := by
      have hx := (h x).mp (by simp)
      have hy := (h y).mpr (by simp)
      rcases List.mem_cons.mp hx with e | hx
      · exact e
      · rcases List.mem_cons.mp hy with e | hy
        · exact e.symm
        · have := h1'.1 y hy; have := h2'.1 x hx; omega
    subst e
    rw [sorted_ext h1'.2 h2'.2 fun z => ⟨fun hz => ?_, fun hz => ?_⟩]
    · rcases List.mem_cons.mp ((h z).mp (by simp [hz])) with e | q
      · have := h1'.1 z hz; omega
      · exact q
    · rcases List.mem_cons.mp ((h z).mpr (by simp [hz])) with e | q
      · have := h2'.1 z hz; omega
      · exact q
theorem sorted_filter (n : Nat) (p : Nat → Bool) : ((List.range n).filter p).Pairwise (· < ·) := List.Pairwise.filter p List.pairwise_lt_range
/-! the program on pairs -/
theorem do_meet_A {a b : A} (ha : okB a) (hb : b.1 < 1000000) : PP.d_do_meet [dA a, dA b] = .ok (.bl (meets a b)) := by
  have hg : (0 : Int) < (Nat.gcd a.1 b.1 : Nat) := by have := Nat.gcd_pos_of_pos_left b.1 ha.1; omega
  simp only [PP.d_do_meet, PP.s_do_meet, dA, body_eq, List.map_cons, List.map_nil, List.replicate, List.append_nil, st_Ret, ev_2, ev_F, av_C, av_N, v_S, v_0, ev_C, R.bind_ok, idx_t, at_0, at_1, sub_i, divisor_ok hb, mod_i hg, eq_i, wr_o, meets]
theorem both_A {a b : A} (ha : okB a) (hb : okB b) (h60 : b.1 ≤ 60) (hm : meets a b = true) : ∃ t0, FirstB a b t0 ∧ PP.d_both [dA a, dA b] = .ok (dA (Nat.lcm a.1 b.1, t0)) := by
  obtain ⟨j0, hj0, hr0⟩ := meets_ex hb ha.2 hm
  have hp : (0 : Int) < b.1 := by have := hb.1; omega
  obtain ⟨ρ', e1, j, h1, h2, e2⟩ := loopW_inv (t := tV (e2 D.ne (e2 D.mod (eV 2) (e2 D.idx (eV 1) (eC (.int 0)))) (e2 D.idx (eV 1) (eC (.int 1))))) (b := PP.b_both_1)
    (fun m ρ => ∃ j, j + m = j0 ∧ (∀ i < j, ringsAt b (a.2 + a.1 * i) = false) ∧ ρ = [some (dA a), some (dA b), some (.int ((a.2 + a.1 * j : Nat) : Int))])
    (fun ρ => ∃ j, ringsAt b (a.2 + a.1 * j) = true ∧ (∀ i < j, ringsAt b (a.2 + a.1 * i) = false) ∧ ρ = [some (dA a), some (dA b), some (.int ((a.2 + a.1 * j : Nat) : Int))])
    (by
      rintro m ρ ⟨j, h1, h2, rfl⟩
      have ht : (tV (e2 D.ne (e2 D.mod (eV 2) (e2 D.idx (eV 1) (eC (.int 0)))) (e2 D.idx (eV 1) (eC (.int 1))))) [some (dA a), some (dA b), some (.int ((a.2 + a.1 * j : Nat) : Int))] = .ok (!ringsAt b (a.2 + a.1 * j)) := by
        simp only [tv_V, ev_2, v_S, v_0, ev_C, R.bind_ok, dA, idx_t, at_0, at_1, mod_i hp, ne_i, asB_b, cast_mod, ringsAt]
      by_cases hr : ringsAt b (a.2 + a.1 * j) = true
      · exact .inl ⟨by rw [ht, hr]; rfl, j, hr, h2, rfl⟩
      · have hr' : ringsAt b (a.2 + a.1 * j) = false := by simpa using hr
        refine .inr ⟨by rw [ht, hr']; rfl, m - 1, _, ?_, ?_, ⟨j + 1, ?_, fun i hi => ?_, rfl⟩⟩
        · have : m ≠ 0 := fun e => hr (by rw [show j = j0 by omega]; exact hr0)
          omega
        · simp only [PP.b_both_1, st_Set, ev_2, v_S, v_0, ev_C, R.bind_ok, dA, idx_t, at_0, add_i, wr_o, List.set_cons_succ, List.set_cons_zero, Nat.mul_add, Nat.mul_one, Int.natCast_add, Int.add_assoc]
        · have : m ≠ 0 := fun e => hr (by rw [show j = j0 by omega]; exact hr0)
          omega
        · rcases Nat.lt_succ_iff_lt_or_eq.mp hi with q | q
          · exact h2 i q
          · rw [q]; exact hr')
    fuel j0 [some (dA a), some (dA b), some (.int (a.2 : Nat))] (by have : fuel = 1000000 := rfl; omega) ⟨0, by omega, fun _ h => absurd h (by omega), by simp⟩
  subst e2
  refine ⟨a.2 + a.1 * j, ⟨ring_at j ha.2, h1, fun t ht ⟨g1, g2⟩ => ?_⟩, ?_⟩
  · obtain ⟨i, rfl⟩ := ring_form g1
    have hi : i < j := by
      have : a.1 * i < a.1 * j := by omega
      exact Nat.lt_of_mul_lt_mul_left this
    rw [h2 i hi] at g2
    cases g2
  · have g1 : (0 : Int) < (Nat.gcd a.1 b.1 : Nat) := by have := Nat.gcd_pos_of_pos_right a.1 hb.1; omega
    have g2 : ((Nat.gcd a.1 b.1 : Nat) : Int) < 2 ^ 64 := by have := Nat.le_of_dvd hb.1 (Nat.gcd_dvd_right a.1 b.1); omega
    have i0 : ∀ c : A, D.idx (dA c) (.int 0) = .ok (.int (c.1 : Nat)) := fun _ => rfl
    have i1 : ∀ c : A, D.idx (dA c) (.int 1) = .ok (.int (c.2 : Nat)) := fun _ => rfl
    have hl : ((a.1 : Int) / (Nat.gcd a.1 b.1 : Nat) * b.1) = (Nat.lcm a.1 b.1 : Nat) := by rw [← lcm_div]; simp
    simp only [PP.d_both, PP.s_both, body_eq, List.map_cons, List.map_nil, List.replicate, List.cons_append, List.nil_append, st_Seq, st_Set, ev_2, v_S, v_0, ev_C, R.bind_ok, i0, i1, wr_o, List.set_cons_succ, List.set_cons_zero, at_n, st_While, e1, st_Ret, ev_Tup, av_C, av_N, ev_F, divisor_ok (show b.1 < 1000000 by omega), fdiv_i g1 g2,
      mul_i (i := (a.1 : Int) / (Nat.gcd a.1 b.1 : Nat)) (j := b.1) (.inr (by omega)), hl]
    simp [lim2', dA]
theorem meet_A {a b : A} (ha : okA a) (hb : okA b) : PP.d_meet [dA a, dA b] = .ok (.bl (meets a b)) := by
  simp only [PP.d_meet, PP.s_meet, body_eq, List.map_cons, List.map_nil, List.replicate, List.append_nil, st_Seq, st_Drop, ev_F, av_C, av_N, v_S, v_0, R.bind_ok, check_two_A ha hb, wr_o, at_n, st_Ret, do_meet_A ha.b (show b.1 < 1000000 by have := hb.2.1; omega)]
/-- the first common time, where they meet -/
theorem first_ex {a b : A} (ha : okB a) (hb : okB b) (h60 : b.1 ≤ 60) (hm : meets a b = true) : ∃ t0, FirstB a b t0 := let ⟨t0, h, _⟩ := both_A ha hb h60 hm; ⟨t0, h⟩
theorem FirstB.uniq {a b : A} {t u : Nat} (h : FirstB a b t) (g : FirstB a b u) : t = u := by
  rcases Nat.lt_trichotomy t u with q | q | q
  · exact absurd ⟨h.1, h.2.1⟩ (g.2.2 t q)
  · exact q
  · exact absurd ⟨g.1, g.2.1⟩ (h.2.2 u q)
theorem first_meeting_A {a b : A} (ha : okA a) (hb : okA b) {t0 : Nat} (h : FirstB a b t0) : PP.d_first_meeting [dA a, dA b] = .ok (.int t0) := by
  have hm := meets_of h.1 h.2.1
  obtain ⟨u, hu, e⟩ := both_A ha.b hb.b hb.2.1 hm
  have : u = t0 := hu.uniq h
  subst this
  have i1 : ∀ c : A, D.idx (dA c) (.int 1) = .ok (.int (c.2 : Nat)) := fun _ => rfl
  simp only [PP.d_first_meeting, PP.s_first_meeting, body_eq, List.map_cons, List.map_nil, List.replicate, List.append_nil, st_Seq, st_Drop, ev_F, av_C, av_N, v_S, v_0, R.bind_ok, check_two_A ha hb, wr_o, at_n, st_Ret, ev_If, tv_V, do_meet_A ha.b (show b.1 < 1000000 by have := hb.2.1; omega), hm, asB_b, if_true, ev_2, e, ev_C, i1]
theorem first_meeting_none {a b : A} (ha : okA a) (hb : okA b) (h : meets a b = false) : PP.d_first_meeting [dA a, dA b] = .ok .non := by
  simp only [PP.d_first_meeting, PP.s_first_meeting, body_eq, List.map_cons, List.map_nil, List.replicate, List.append_nil, st_Seq, st_Drop, ev_F, av_C, av_N, v_S, v_0, R.bind_ok, check_two_A ha hb, wr_o, at_n, st_Ret, ev_If, tv_V, do_meet_A ha.b (show b.1 < 1000000 by have := hb.2.1; omega), h, asB_b, Bool.false_eq_true, if_false, ev_C]
theorem meetings_A {a b : A} (ha : okA a) (hb : okA b) {t0 n : Nat} (hn : n ≤ 20) (h : FirstB a b t0) : PP.d_meetings [dA a, dA b, .int n] = .ok (dN ((List.range n).map fun k => t0 + Nat.lcm a.1 b.1 * k)) := by
  have hm := meets_of h.1 h.2.1
  obtain ⟨u, hu, e⟩ := both_A ha.b hb.b hb.2.1 hm
  have : u = t0 := hu.uniq h
  subst this
  have hi : PP.d_is_int [.int (n : Nat), .int 0, .int 20] = .ok (.bl true) := by
    rw [is_int_ok, decide_eq_true (show (0 : Int) ≤ n by omega), decide_eq_true (show (n : Int) ≤ 20 by omega)]; rfl
  have hc : compL (gN 5) tYesF (e2 D.add (eV 4) (e2 D.mul (eV 3) (eV 5))) [some (dA a), some (dA b), some (.int n), some (.int (Nat.lcm a.1 b.1 : Nat)), some (.int u), none] ((List.range n).map fun k => .int (k : Nat)) = .ok ((List.range n).map fun k => .int ((u + Nat.lcm a.1 b.1 * k : Nat) : Int)) :=
    compL_all _ _ _ fun k hk => ⟨_, rfl, by
      have hk' := List.mem_range.mp hk
      simp only [ev_2, v_S, v_0, R.bind_ok, List.set_cons_succ, List.set_cons_zero, mul_i (i := (Nat.lcm a.1 b.1 : Nat)) (j := (k : Nat)) (.inr (by omega)), add_i, Int.natCast_add, Int.natCast_mul]⟩
  simp only [PP.d_meetings, PP.s_meetings, body_eq, List.map_cons, List.map_nil, List.replicate, List.cons_append, List.nil_append, st_Seq, st_Drop, ev_F, av_C, av_N, v_S, v_0, R.bind_ok, check_two_A ha hb, wr_o, at_n, st_If, tv_Not, tv_V, ev_C, hi, asB_b, Bool.not_true, Bool.false_eq_true, if_false, st_Nx, do_meet_A ha.b (show b.1 < 1000000 by have := hb.2.1; omega), hm, st_Asg, e]
  simp only [dA, gv_T, gv_C, gv_N, gv_0, Option.bind_some, List.set_cons_succ, List.set_cons_zero, at_n, st_Ret, ev_Comp, iv_A, av_C, av_N, v_S, v_0, R.bind_ok, rngA_1, wv_C, wv_0]
  rw [rng_nat (lim2 (by omega))]
  rw [dA] at hc
  simp only [R.bind_ok]
  rw [show (dA b) = .tup [.int (b.1 : Nat), .int (b.2 : Nat)] from rfl] at hc
  simp only [hc, R.bind_ok, wr_o, dN, List.map_map]
  rfl
theorem meetings_none {a b : A} (ha : okA a) (hb : okA b) {n : Nat} (hn : n ≤ 20) (h : meets a b = false) : PP.d_meetings [dA a, dA b, .int n] = .ok (.lst []) := by
  have hi : PP.d_is_int [.int (n : Nat), .int 0, .int 20] = .ok (.bl true) := by
    rw [is_int_ok, decide_eq_true (show (0 : Int) ≤ n by omega), decide_eq_true (show (n : Int) ≤ 20 by omega)]; rfl
  simp only [PP.d_meetings, PP.s_meetings, body_eq, List.map_cons, List.map_nil, List.replicate, List.cons_append, List.nil_append, st_Seq, st_Drop, ev_F, av_C, av_N, v_S, v_0, R.bind_ok, check_two_A ha hb, wr_o, at_n, st_If, tv_Not, tv_V, ev_C, hi, asB_b, Bool.not_true, Bool.not_false, Bool.false_eq_true, if_false, if_true, st_Nx, do_meet_A ha.b (show b.1 < 1000000 by have := hb.2.1; omega), h, st_Ret, ev_Lst, List.length_nil, Nat.zero_le, at_r]
/-- the least distance -/
def restOf (a b : A) : Int := ((a.2 : Int) - b.2) % (Nat.gcd a.1 b.1 : Nat)
def leastD (a b : A) : Int := if (Nat.gcd a.1 b.1 : Nat) - restOf a b < restOf a b then (Nat.gcd a.1 b.1 : Nat) - restOf a b else restOf a b
theorem least_distance_A {a b : A} (ha : okA a) (hb : okA b) : PP.d_least_distance [dA a, dA b] = .ok (.int (leastD a b)) := by
  have hg : (0 : Int) < (Nat.gcd a.1 b.1 : Nat) := by have := Nat.gcd_pos_of_pos_left b.1 ha.1; omega
  have i0 : ∀ c : A, D.idx (dA c) (.int 0) = .ok (.int (c.1 : Nat)) := fun _ => rfl
  have i1 : ∀ c : A, D.idx (dA c) (.int 1) = .ok (.int (c.2 : Nat)) := fun _ => rfl
  simp only [PP.d_least_distance, PP.s_least_distance, body_eq, List.map_cons, List.map_nil, List.replicate, List.cons_append, List.nil_append, st_Seq, st_Drop, ev_F, av_C, av_N, v_S, v_0, R.bind_ok, check_two_A ha hb, wr_o, at_n, st_Set, ev_2, ev_C, i0, i1, divisor_ok (show b.1 < 1000000 by have := hb.2.1; omega), sub_i, mod_i hg, List.set_cons_succ, List.set_cons_zero, st_Ret, bMin2_i, leastD, restOf]
  rfl
/-- two rings are at least so far apart -/
theorem leastD_le {a b : A} (ha : okB a) {t u : Nat} (h1 : ringsAt a t = true) (h2 : ringsAt b u = true) : leastD a b ≤ (if (t : Int) - u < 0 then -((t : Int) - u) else (t : Int) - u) := by
  have hg : 0 < Nat.gcd a.1 b.1 := Nat.gcd_pos_of_pos_left b.1 ha.1
  obtain ⟨j, rfl⟩ := ring_form h1
  obtain ⟨k, rfl⟩ := ring_form h2
  obtain ⟨x, hx⟩ := Nat.gcd_dvd_left a.1 b.1
  obtain ⟨y, hy⟩ := Nat.gcd_dvd_right a.1 b.1
  have e : ((a.2 + a.1 * j : Nat) : Int) - ((b.2 + b.1 * k : Nat) : Int) = restOf a b + (Nat.gcd a.1 b.1 : Nat) * (((a.2 : Int) - b.2) / (Nat.gcd a.1 b.1 : Nat) + (x * j - y * k)) := by
    have hd := Int.emod_add_mul_ediv ((a.2 : Int) - b.2) (Nat.gcd a.1 b.1 : Nat)
    rw [Int.mul_add, Int.mul_sub, ← Int.mul_assoc, ← Int.mul_assoc]
    have c1 : ((Nat.gcd a.1 b.1 : Nat) : Int) * x = a.1 := by rw [← Int.natCast_mul, ← hx]
    have c2 : ((Nat.gcd a.1 b.1 : Nat) : Int) * y = b.1 := by rw [← Int.natCast_mul, ← hy]
    rw [c1, c2, restOf]
    simp only [Int.natCast_add, Int.natCast_mul]
    omega
  rw [e]
  have r0 : 0 ≤ restOf a b := Int.emod_nonneg _ (by omega)
  have r1 : restOf a b < (Nat.gcd a.1 b.1 : Nat) := Int.emod_lt_of_pos _ (by omega)
  generalize ((a.2 : Int) - b.2) / (Nat.gcd a.1 b.1 : Nat) + (x * j - y * k) = q
  rcases (show q < 0 ∨ 0 ≤ q by omega) with hq | hq
  · have : ((Nat.gcd a.1 b.1 : Nat) : Int) * q ≤ (Nat.gcd a.1 b.1 : Nat) * (-1) := Int.mul_le_mul_of_nonneg_left (by omega) (by omega)
    rw [leastD]
    split <;> split <;> omega
  · have : 0 ≤ ((Nat.gcd a.1 b.1 : Nat) : Int) * q := Int.mul_nonneg (by omega) hq
    rw [leastD]
    split <;> split <;> omega
theorem lcm_ge_gcd {a b : A} (ha : okB a) (hb : okB b) : Nat.gcd a.1 b.1 ≤ Nat.lcm a.1 b.1 :=
  Nat.le_trans (Nat.le_of_dvd ha.1 (Nat.gcd_dvd_left a.1 b.1)) (Nat.le_of_dvd (lcm_pos' ha hb) (Nat.dvd_lcm_left a.1 b.1))
/-- two rings that are so far apart -/
theorem leastD_ex {a b : A} (ha : okA a) (hb : okA b) : ∃ t u : Nat, t < 2 * Nat.lcm a.1 b.1 ∧ u < 2 * Nat.lcm a.1 b.1 ∧ ringsAt a t = true ∧ ringsAt b u = true ∧ leastD a b = (if (t : Int) - u < 0 then -((t : Int) - u) else (t : Int) - u) := by
  have hg : 0 < Nat.gcd a.1 b.1 := Nat.gcd_pos_of_pos_left b.1 ha.1
  have hp : 0 < b.1 := hb.1
  have r0 : 0 ≤ restOf a b := Int.emod_nonneg _ (by omega)
  have r1 : restOf a b < (Nat.gcd a.1 b.1 : Nat) := Int.emod_lt_of_pos _ (by omega)
  have hd := Int.emod_add_mul_ediv ((a.2 : Int) - b.2) (Nat.gcd a.1 b.1 : Nat)
  have hgl := lcm_ge_gcd ha.b hb.b
  obtain ⟨y, hy⟩ := Nat.gcd_dvd_right a.1 b.1
  -- the other, moved by k
  have mv : ∀ k : Nat, ((Nat.gcd a.1 b.1 : Nat) : Int) ∣ ((a.2 : Int) - b.2) - k → ∃ t, t < Nat.lcm a.1 b.1 ∧ ringsAt a t = true ∧ ringsAt (b.1, (b.2 + k) % b.1) t = true := fun k hk => by
    have hb' : okB (b.1, (b.2 + k) % b.1) := ⟨hp, Nat.mod_lt _ hp⟩
    have hm : meets a (b.1, (b.2 + k) % b.1) = true := by
      rw [meets_iff]
      show ((Nat.gcd a.1 b.1 : Nat) : Int) ∣ (a.2 : Int) - ((b.2 + k) % b.1 : Nat)
      have e := Nat.div_add_mod (b.2 + k) b.1
      have e2 : (a.2 : Int) - ((b.2 + k) % b.1 : Nat) = ((a.2 : Int) - b.2 - k) + (Nat.gcd a.1 b.1 : Nat) * (y * ((b.2 + k) / b.1 : Nat)) := by
        rw [← Int.mul_assoc]
        have c2 : ((Nat.gcd a.1 b.1 : Nat) : Int) * y = b.1 := by rw [← Int.natCast_mul, ← hy]
        rw [c2]
        have : (b.1 : Int) * ((b.2 + k) / b.1 : Nat) = ((b.1 * ((b.2 + k) / b.1) : Nat) : Int) := by rw [Int.natCast_mul]
        omega
      rw [e2]
      exact Int.dvd_add hk (Int.dvd_mul_right _ _)
    obtain ⟨t, ht⟩ := first_ex ha.b hb' hb.2.1 hm
    have hlt : t < Nat.lcm a.1 b.1 := FirstB.lt (b := (b.1, (b.2 + k) % b.1)) ha.b hb' ht
    exact ⟨t, hlt, ht.1, ht.2.1⟩
  have back : ∀ {k t u : Nat}, ringsAt (b.1, (b.2 + k) % b.1) t = true → t = u + k → ringsAt b u = true := fun {k t u} h e => by
    rw [rings_iff] at h ⊢
    have h : t % b.1 = (b.2 + k) % b.1 := h
    rw [e] at h
    have h3 : ((u : Int) + k) % b.1 = ((b.2 : Int) + k) % b.1 := by
      have := congrArg (fun n : Nat => (n : Int)) h
      simpa using this
    have h4 := Int.emod_eq_emod_iff_emod_sub_eq_zero.mp h3
    have h5 : ((u : Int) + k) - ((b.2 : Int) + k) = u - b.2 := by omega
    rw [h5] at h4
    have h6 := Int.emod_eq_emod_iff_emod_sub_eq_zero.mpr h4
    rw [← Int.natCast_emod, ← Int.natCast_emod, Nat.mod_eq_of_lt hb.2.2] at h6
    omega
  have back2 : ∀ {k t : Nat}, k ≤ b.1 → ringsAt (b.1, (b.2 + (b.1 - k)) % b.1) t = true → ringsAt b (t + k) = true := fun {k t} hk h => by
    have := back (k := b.1 - k) (t := t + b.1) (u := t + k) (by
      rw [rings_iff] at h ⊢
      show (t + b.1) % b.1 = _
      rw [Nat.add_mod_right]; exact h) (by omega)
    exact this
  by_cases hc : (Nat.gcd a.1 b.1 : Nat) - restOf a b < restOf a b
  · -- to the other side
    have hgb := Nat.le_of_dvd hp (Nat.gcd_dvd_right a.1 b.1)
    obtain ⟨k, hk⟩ : ∃ k : Nat, (k : Int) = (Nat.gcd a.1 b.1 : Nat) - restOf a b := ⟨((Nat.gcd a.1 b.1 : Nat) - restOf a b).toNat, by omega⟩
    obtain ⟨t, h1, h2, h3⟩ := mv (b.1 - k) (by
      have e2 : (a.2 : Int) - b.2 - (b.1 - k : Nat) = (Nat.gcd a.1 b.1 : Nat) * (((a.2 : Int) - b.2) / (Nat.gcd a.1 b.1 : Nat) + 1 - y) := by
        have c2 : ((Nat.gcd a.1 b.1 : Nat) : Int) * y = b.1 := by rw [← Int.natCast_mul, ← hy]
        rw [Int.mul_sub, Int.mul_add, c2, Int.mul_one]
        rw [restOf] at hk r0 r1
        omega
      rw [e2]
      exact Int.dvd_mul_right _ _)
    refine ⟨t, t + k, by omega, by omega, h2, back2 (by omega) h3, ?_⟩
    rw [leastD, if_pos hc]
    split <;> omega
  · obtain ⟨k, hk⟩ : ∃ k : Nat, (k : Int) = restOf a b := ⟨(restOf a b).toNat, by omega⟩
    obtain ⟨t, h1, h2, h3⟩ := mv k (by
      have e2 : (a.2 : Int) - b.2 - (k : Nat) = (Nat.gcd a.1 b.1 : Nat) * (((a.2 : Int) - b.2) / (Nat.gcd a.1 b.1 : Nat)) := by
        rw [restOf] at hk
        omega
      rw [e2]
      exact Int.dvd_mul_right _ _)
    refine ⟨t + Nat.lcm a.1 b.1, t + Nat.lcm a.1 b.1 - k, by omega, by omega, ?_, ?_, ?_⟩
    · rw [mod_shift (Nat.dvd_lcm_left _ _)]; exact h2
    · refine back (k := k) (t := t + Nat.lcm a.1 b.1) ?_ (by omega)
      have : ringsAt (b.1, (b.2 + k) % b.1) (t + Nat.lcm a.1 b.1) = ringsAt (b.1, (b.2 + k) % b.1) t := mod_shift (a := (b.1, (b.2 + k) % b.1)) (Nat.dvd_lcm_right a.1 b.1)
      rw [this]; exact h3
    · rw [leastD, if_neg hc]
      split <;> omega
theorem minI_eq {m : Int} : ∀ {xs : List Int}, m ∈ xs → (∀ x ∈ xs, m ≤ x) → D.minI xs = m
  | [x], h, _ => by simp at h; simp [D.minI, h]
  | x :: y :: r, h, g => by
    have ih : ∀ z, z ∈ y :: r → (∀ x ∈ y :: r, z ≤ x) → D.minI (y :: r) = z := fun z => minI_eq (m := z)
    have g1 := g x (by simp)
    have hr : ∃ z ∈ y :: r, ∀ x ∈ y :: r, z ≤ x := by
      clear ih g1 g h
      induction r generalizing y with
      | nil => exact ⟨y, by simp, by simp⟩
      | cons u r ih =>
        obtain ⟨z, h1, h2⟩ := ih u
        by_cases q : y ≤ z
        · exact ⟨y, by simp, fun x hx => (List.mem_cons.mp hx).elim (fun e => by omega) (fun hx => by have := h2 x hx; omega)⟩
        · exact ⟨z, List.mem_cons_of_mem _ h1, fun x hx => (List.mem_cons.mp hx).elim (fun e => by omega) (fun hx => h2 x hx)⟩
    obtain ⟨z, h1, h2⟩ := hr
    have e := ih z h1 h2
    have g2 := g z (List.mem_cons_of_mem _ h1)
    show (let q := D.minI (y :: r); if x < q then x else q) = m
    rw [e]
    show (if x < z then x else z) = m
    rcases List.mem_cons.mp h with q | q
    · subst q; split <;> omega
    · have := h2 m q
      split <;> omega
theorem maxI_eq {m : Int} : ∀ {xs : List Int}, m ∈ xs → (∀ x ∈ xs, x ≤ m) → D.maxI xs = m
  | [x], h, _ => by simp at h; simp [D.maxI, h]
  | x :: y :: r, h, g => by
    have ih : ∀ z, z ∈ y :: r → (∀ x ∈ y :: r, x ≤ z) → D.maxI (y :: r) = z := fun z => maxI_eq (m := z)
    have g1 := g x (by simp)
    have hr : ∃ z ∈ y :: r, ∀ x ∈ y :: r, x ≤ z := by
      clear ih g1 g h
      induction r generalizing y with
      | nil => exact ⟨y, by simp, by simp⟩
      | cons u r ih =>
        obtain ⟨z, h1, h2⟩ := ih u
        by_cases q : z ≤ y
        · exact ⟨y, by simp, fun x hx => (List.mem_cons.mp hx).elim (fun e => by omega) (fun hx => by have := h2 x hx; omega)⟩
        · exact ⟨z, List.mem_cons_of_mem _ h1, fun x hx => (List.mem_cons.mp hx).elim (fun e => by omega) (fun hx => h2 x hx)⟩
    obtain ⟨z, h1, h2⟩ := hr
    have e := ih z h1 h2
    have g2 := g z (List.mem_cons_of_mem _ h1)
    show (let q := D.maxI (y :: r); if q < x then x else q) = m
    rw [e]
    show (if z < x then x else z) = m
    rcases List.mem_cons.mp h with q | q
    · subst q; split <;> omega
    · have := h2 m q
      split <;> omega
theorem minI_mem {xs : List Int} (h : xs ≠ []) : D.minI xs ∈ xs := by
  have hr : ∀ xs : List Int, xs ≠ [] → ∃ z ∈ xs, ∀ x ∈ xs, z ≤ x := by
    intro xs
    induction xs with
    | nil => intro h; exact absurd rfl h
    | cons y r ih =>
      intro _
      cases r with
      | nil => exact ⟨y, by simp, by simp⟩
      | cons u r =>
        obtain ⟨z, h1, h2⟩ := ih (by simp)
        by_cases q : y ≤ z
        · exact ⟨y, by simp, fun x hx => (List.mem_cons.mp hx).elim (fun e => by omega) (fun hx => by have := h2 x hx; omega)⟩
        · exact ⟨z, List.mem_cons_of_mem _ h1, fun x hx => (List.mem_cons.mp hx).elim (fun e => by omega) (fun hx => h2 x hx)⟩
  obtain ⟨z, h1, h2⟩ := hr xs h
  rw [minI_eq h1 h2]
  exact h1
theorem maxI_mem {xs : List Int} (h : xs ≠ []) : D.maxI xs ∈ xs := by
  have hr : ∀ xs : List Int, xs ≠ [] → ∃ z ∈ xs, ∀ x ∈ xs, x ≤ z := by
    intro xs
    induction xs with
    | nil => intro h; exact absurd rfl h
    | cons y r ih =>
      intro _
      cases r with
      | nil => exact ⟨y, by simp, by simp⟩
      | cons u r =>
        obtain ⟨z, h1, h2⟩ := ih (by simp)
        by_cases q : z ≤ y
        · exact ⟨y, by simp, fun x hx => (List.mem_cons.mp hx).elim (fun e => by omega) (fun hx => by have := h2 x hx; omega)⟩
        · exact ⟨z, List.mem_cons_of_mem _ h1, fun x hx => (List.mem_cons.mp hx).elim (fun e => by omega) (fun hx => h2 x hx)⟩
  obtain ⟨z, h1, h2⟩ := hr xs h
  rw [maxI_eq h1 h2]
  exact h1
theorem leastD_comm {a b : A} (ha : okA a) (hb : okA b) : leastD a b = leastD b a := by
  have h1 : leastD a b ≤ leastD b a := by
    obtain ⟨t, u, -, -, h1, h2, h3⟩ := leastD_ex hb ha
    have := leastD_le ha.b h2 h1
    rw [h3]
    split <;> split at this <;> omega
  have h2 : leastD b a ≤ leastD a b := by
    obtain ⟨t, u, -, -, h1, h2, h3⟩ := leastD_ex ha hb
    have := leastD_le hb.b h2 h1
    rw [h3]
    split <;> split at this <;> omega
  omega
/-- the common times of two cycles -/
theorem two_times {a b : A} (ha : okB a) (hb : okB b) {t0 : Nat} (h : FirstB a b t0) : ((List.range (2 * Nat.lcm a.1 b.1)).filter fun t => ringsAt a t && ringsAt b t) = [t0, t0 + Nat.lcm a.1 b.1] := by
  have hl := h.lt ha hb
  have hp := lcm_pos' ha hb
  refine sorted_ext (sorted_filter _ _) (.cons (fun x hx => by simp only [List.mem_cons, List.not_mem_nil, or_false] at hx; omega) (.cons (fun x hx => by simp at hx) .nil)) fun x => ?_
  simp only [List.mem_filter, List.mem_range, Bool.and_eq_true, List.mem_cons, List.not_mem_nil, or_false]
  rw [h.iff ha hb, rings_iff]
  show x < 2 * Nat.lcm a.1 b.1 ∧ x % Nat.lcm a.1 b.1 = t0 ↔ _
  have hd := Nat.div_add_mod x (Nat.lcm a.1 b.1)
  generalize Nat.lcm a.1 b.1 = L at *
  constructor
  · rintro ⟨h1, h2⟩
    have : x / L < 2 := Nat.div_lt_of_lt_mul (by omega)
    generalize x / L = k at hd this
    rcases (show k = 0 ∨ k = 1 by omega) with e | e
    · rw [e] at hd; omega
    · rw [e] at hd; omega
  · rintro (e | e)
    · subst e; exact ⟨by omega, Nat.mod_eq_of_lt hl⟩
    · subst e; exact ⟨by omega, by rw [Nat.add_mod_right, Nat.mod_eq_of_lt hl]⟩
theorem no_times {a b : A} (h : meets a b = false) (n : Nat) : ((List.range n).filter fun t => ringsAt a t && ringsAt b t) = [] := by
  rw [List.filter_eq_nil_iff]
  intro t _ q
  rw [Bool.and_eq_true] at q
  rw [meets_of q.1 q.2] at h
  cases h
end RT

namespace RT
/-! S5: more than two alarms; groups; crowds -/
theorem gcd_lcm_dvd (a b p : Nat) (hp : 0 < p) : Nat.gcd (Nat.lcm a b) p ∣ Nat.lcm (Nat.gcd a p) (Nat.gcd b p) := by
  have hx : 0 < Nat.gcd (Nat.gcd a p) (Nat.gcd b p) := Nat.gcd_pos_of_pos_left _ (Nat.gcd_pos_of_pos_right a hp)
  generalize hz : Nat.gcd (Nat.gcd a p) (Nat.gcd b p) = z at hx
  have za : z ∣ a := hz ▸ Nat.dvd_trans (Nat.gcd_dvd_left _ _) (Nat.gcd_dvd_left a p)
  have zb : z ∣ b := hz ▸ Nat.dvd_trans (Nat.gcd_dvd_right _ _) (Nat.gcd_dvd_left b p)
  have zp : z ∣ p := hz ▸ Nat.dvd_trans (Nat.gcd_dvd_left _ _) (Nat.gcd_dvd_right a p)
  have key : Nat.gcd (Nat.lcm a b) p * z ∣ Nat.gcd a p * Nat.gcd b p := by
    have e : Nat.gcd a p * Nat.gcd b p = Nat.gcd (Nat.gcd (a * b) (a * p)) (Nat.gcd (p * b) (p * p)) := by
      rw [Nat.gcd_mul_left, Nat.gcd_mul_left, Nat.gcd_mul_right]
    rw [e]
    have gl := Nat.gcd_dvd_left (Nat.lcm a b) p
    have gp := Nat.gcd_dvd_right (Nat.lcm a b) p
    have hab : Nat.gcd (Nat.lcm a b) p * z ∣ a * b := by
      have h1 : Nat.gcd (Nat.lcm a b) p * z ∣ Nat.lcm a b * Nat.gcd a b := Nat.mul_dvd_mul gl (Nat.dvd_gcd za zb)
      rwa [Nat.mul_comm (Nat.lcm a b), Nat.gcd_mul_lcm] at h1
    refine Nat.dvd_gcd (Nat.dvd_gcd hab ?_) (Nat.dvd_gcd ?_ ?_)
    · rw [Nat.mul_comm a p]; exact Nat.mul_dvd_mul gp za
    · exact Nat.mul_dvd_mul gp zb
    · exact Nat.mul_dvd_mul gp zp
  have hl : Nat.lcm (Nat.gcd a p) (Nat.gcd b p) * z = Nat.gcd a p * Nat.gcd b p := by
    rw [← hz, Nat.mul_comm, Nat.gcd_mul_lcm]
  rw [← hl] at key
  exact Nat.dvd_of_mul_dvd_mul_right hx key
theorem ring_dvd {a : A} {t : Nat} (h : ringsAt a t = true) : (a.1 : Int) ∣ (t : Int) - a.2 := by
  obtain ⟨j, rfl⟩ := ring_form h
  exact ⟨(j : Int), by simp; omega⟩
/-- the joined alarm meets whom both meet -/
theorem joined_meets {c a b : A} {t0 : Nat} (hb : 0 < b.1) (h1 : ringsAt c t0 = true) (h2 : ringsAt a t0 = true) (mc : meets c b = true) (ma : meets a b = true) : meets (Nat.lcm c.1 a.1, t0) b = true := by
  rw [meets_iff] at *
  have d1 : ((Nat.gcd c.1 b.1 : Nat) : Int) ∣ (t0 : Int) - b.2 := by
    have h := Int.dvd_add (Int.dvd_trans (Int.natCast_dvd_natCast.mpr (Nat.gcd_dvd_left c.1 b.1)) (ring_dvd h1)) mc
    have e : (t0 : Int) - c.2 + (c.2 - b.2) = t0 - b.2 := by omega
    rwa [e] at h
  have d2 : ((Nat.gcd a.1 b.1 : Nat) : Int) ∣ (t0 : Int) - b.2 := by
    have h := Int.dvd_add (Int.dvd_trans (Int.natCast_dvd_natCast.mpr (Nat.gcd_dvd_left a.1 b.1)) (ring_dvd h2)) ma
    have e : (t0 : Int) - a.2 + (a.2 - b.2) = t0 - b.2 := by omega
    rwa [e] at h
  have d3 : ((Nat.lcm (Nat.gcd c.1 b.1) (Nat.gcd a.1 b.1) : Nat) : Int) ∣ (t0 : Int) - b.2 := by
    rw [← Int.natAbs_dvd_natAbs] at *
    simp only [Int.natAbs_natCast] at *
    exact Nat.lcm_dvd d1 d2
  exact Int.dvd_trans (Int.natCast_dvd_natCast.mpr (gcd_lcm_dvd c.1 a.1 b.1 hb)) d3
theorem cyc_pos' : ∀ {r : List A} {c : Nat}, 0 < c → (∀ a ∈ r, 0 < a.1) → 0 < r.foldl (fun c a => Nat.lcm c a.1) c
  | [], _, h, _ => h
  | a :: r, c, h, g => cyc_pos' (r := r) (c := Nat.lcm c a.1) (Nat.lcm_pos h (g a (by simp))) fun b hb => g b (by simp [hb])
theorem cyc_pos {r : List A} (h : ∀ a ∈ r, okA a) : 0 < cyc r := cyc_pos' (by decide) fun a ha => (h a ha).1
theorem dvd_fold : ∀ (r : List A) (c : Nat), c ∣ r.foldl (fun c a => Nat.lcm c a.1) c
  | [], c => Nat.dvd_refl c
  | a :: r, c => Nat.dvd_trans (Nat.dvd_lcm_left c a.1) (dvd_fold r _)
theorem dvd_cyc' : ∀ {r : List A} {c : Nat} {a : A}, a ∈ r → a.1 ∣ r.foldl (fun c a => Nat.lcm c a.1) c
  | b :: r, c, a, h => by
    rcases List.mem_cons.mp h with e | h
    · subst e; exact Nat.dvd_trans (Nat.dvd_lcm_right c a.1) (dvd_fold r _)
    · exact dvd_cyc' (r := r) (c := Nat.lcm c b.1) h
theorem dvd_cyc {r : List A} {a : A} (h : a ∈ r) : a.1 ∣ cyc r := dvd_cyc' h
/-- all that meet pair by pair ring together -/
theorem all_join : ∀ (r : List A) (c : A), okB c → (∀ a ∈ r, okA a) → r.Pairwise (fun a b => meets a b = true) → (∀ a ∈ r, meets c a = true) →
    ∃ t0, t0 < r.foldl (fun c a => Nat.lcm c a.1) c.1 ∧ ∀ t, ringsAt (r.foldl (fun c a => Nat.lcm c a.1) c.1, t0) t = true ↔ (ringsAt c t = true ∧ ∀ a ∈ r, ringsAt a t = true)
  | [], c, hc, _, _, _ => ⟨c.2, hc.2, fun t => ⟨fun h => ⟨h, by simp⟩, fun h => h.1⟩⟩
  | a :: r, c, hc, ha, hp, hm => by
    have oa := ha a (by simp)
    have hp' := List.pairwise_cons.mp hp
    obtain ⟨t1, ht⟩ := first_ex hc oa.b oa.2.1 (hm a (by simp))
    have hlt := ht.lt hc oa.b
    have hc' : okB (Nat.lcm c.1 a.1, t1) := ⟨lcm_pos' hc oa.b, hlt⟩
    obtain ⟨t0, h1, h2⟩ := all_join r (Nat.lcm c.1 a.1, t1) hc' (fun b hb => ha b (by simp [hb])) hp'.2 fun b hb => joined_meets (by have := (ha b (by simp [hb])).1; omega) ht.1 ht.2.1 (hm b (by simp [hb])) (hp'.1 b hb)
    refine ⟨t0, h1, fun t => ?_⟩
    rw [List.foldl_cons]
    rw [h2 t, ← ht.iff hc oa.b t]
    constructor
    · rintro ⟨⟨g1, g2⟩, g3⟩
      exact ⟨g1, fun b hb => (List.mem_cons.mp hb).elim (fun e => by rw [e]; exact g2) (fun hb => g3 b hb)⟩
    · rintro ⟨g1, g2⟩
      exact ⟨⟨g1, g2 a (by simp)⟩, fun b hb => g2 b (by simp [hb])⟩
theorem rings_one (t : Nat) : ringsAt (1, 0) t = true := by rw [rings_iff]; exact Nat.mod_one t
theorem meets_one (a : A) : meets (1, 0) a = true := by rw [meets_iff]; simp
theorem row_join {r : List A} (h : ∀ a ∈ r, okA a) (hp : r.Pairwise (fun a b => meets a b = true)) : ∃ t0, t0 < cyc r ∧ ∀ t, ringsAt (cyc r, t0) t = true ↔ ∀ a ∈ r, ringsAt a t = true := by
  obtain ⟨t0, h1, h2⟩ := all_join r (1, 0) ⟨by decide, by decide⟩ h hp fun a _ => meets_one a
  exact ⟨t0, h1, fun t => (h2 t).trans ⟨fun q => q.2, fun q => ⟨rings_one t, q⟩⟩⟩
theorem row_join' {r : List A} (h : ∀ a ∈ r, okA a) (hp : r.Pairwise (fun a b => meets a b = true)) : ∃ t0, t0 < cyc r ∧ ∀ a ∈ r, ringsAt a t0 = true := by
  obtain ⟨t0, h1, h2⟩ := row_join h hp
  exact ⟨t0, h1, (h2 t0).mp (by rw [rings_iff]; exact Nat.mod_eq_of_lt h1)⟩
/-! find_apart -/
def gA (r : List A) (i : Nat) : A := r.getD i (1, 0)
theorem gA_lt {r : List A} {i : Nat} (h : i < r.length) : gA r i = r[i] := by simp [gA, h]
theorem gA_mem {r : List A} {i : Nat} (h : i < r.length) : gA r i ∈ r := by rw [gA_lt h]; exact List.getElem_mem h
def apartOf (r : List A) : Option (Nat × Nat) := (List.range r.length).findSome? fun i => (List.range (r.length - (i + 1))).findSome? fun k => if meets (gA r i) (gA r (i + 1 + k)) then none else some (i, i + 1 + k)
def apartD : Option (Nat × Nat) → D
  | some (i, j) => .tup [.int (i : Nat), .int (j : Nat)]
  | none => .non
theorem zip_range {α : Type} (d : α) (r : List α) : (List.range r.length).zip r = (List.range r.length).map fun i => (i, r.getD i d) := by
  apply List.ext_getElem
  · simp
  · intro i h1 h2
    simp at h1 h2 ⊢
    simp [h2]
theorem loopF_ret {α : Type} {g : GF} {b : SF} (inj : α → D) (I : Env → Prop) (f : α → Option D) : ∀ (l : List α) (ρ : Env), I ρ →
    (∀ x ∈ l, ∀ ρ, I ρ → ∃ ρ1, g (inj x) ρ = some ρ1 ∧ match f x with
      | some d => b ρ1 = .rt d
      | none => ∃ ρ2, b ρ1 = .nx ρ2 ∧ I ρ2) →
    match l.findSome? f with
    | some d => loopF g b (l.map inj) ρ = .rt d
    | none => ∃ ρ2, loopF g b (l.map inj) ρ = .nx ρ2 ∧ I ρ2
  | [], ρ, h, _ => ⟨ρ, rfl, h⟩
  | x :: l, ρ, h, s => by
    obtain ⟨ρ1, h1, h2⟩ := s x (by simp) ρ h
    cases hf : f x with
    | some d =>
      rw [hf] at h2
      have h2 : b ρ1 = .rt d := h2
      rw [List.findSome?_cons, hf]
      show loopF g b (inj x :: l.map inj) ρ = .rt d
      rw [loopF, h1]
      simp only [h2, at_r]
    | none =>
      rw [hf] at h2
      obtain ⟨ρ2, h3, h4⟩ : ∃ ρ2, b ρ1 = .nx ρ2 ∧ I ρ2 := h2
      have ih := loopF_ret inj I f l ρ2 h4 fun y hy => s y (by simp [hy])
      rw [List.findSome?_cons, hf]
      have e : loopF g b ((x :: l).map inj) ρ = loopF g b (l.map inj) ρ2 := by
        rw [List.map_cons, loopF, h1]
        simp only [h3, at_n]
      rw [e]
      exact ih
theorem findSome_map {α β γ : Type} (f : α → Option β) (g : β → γ) : ∀ l : List α, (l.findSome? fun x => (f x).map g) = (l.findSome? f).map g
  | [] => rfl
  | x :: l => by
    rw [List.findSome?_cons, List.findSome?_cons]
    cases f x with
    | some y => rfl
    | none => exact findSome_map f g l
theorem find_apart_R {r : List A} (h : ∀ a ∈ r, okB a) (h6 : ∀ a ∈ r, a.1 < 1000000) (hl : r.length ≤ 1000) : PP.d_find_apart [dR r] = .ok (apartD (apartOf r)) := by
  have key := loopF_ret (g := gT (gsC (gN 1) (gsC (gN 2) gs0))) (b := PP.b_find_apart_2) (fun i : Nat => D.tup [.int (i : Nat), dA (gA r i)]) (fun ρ => ∃ x y z, ρ = [some (dR r), x, y, z])
    (fun i => ((List.range (r.length - (i + 1))).findSome? fun k => if meets (gA r i) (gA r (i + 1 + k)) then none else some (i, i + 1 + k)).map fun p => apartD (some p)) (List.range r.length) [some (dR r), none, none, none] ⟨_, _, _, rfl⟩ (by
      rintro i hi ρ ⟨x, y, z, rfl⟩
      have hi' := List.mem_range.mp hi
      refine ⟨_, rfl, ?_⟩
      have inner := loopF_ret (g := gN 3) (b := PP.b_find_apart_1) (fun k : Nat => D.int ((i + 1 + k : Nat) : Int)) (fun ρ => ∃ z, ρ = [some (dR r), some (.int i), some (dA (gA r i)), z])
        (fun k => (if meets (gA r i) (gA r (i + 1 + k)) then none else some (i, i + 1 + k)).map fun p => apartD (some p)) (List.range (r.length - (i + 1))) [some (dR r), some (.int i), some (dA (gA r i)), z] ⟨_, rfl⟩ (by
          rintro k hk ρ ⟨z, rfl⟩
          have hk' := List.mem_range.mp hk
          have hj : i + 1 + k < r.length := by omega
          have hidx : D.idx (dR r) (.int ((i + 1 + k : Nat) : Int)) = .ok (dA (gA r (i + 1 + k))) := by
            rw [dR, idx_t]
            refine at_nat ?_
            rw [List.getElem?_map, List.getElem?_eq_getElem hj, gA_lt hj]
            rfl
          have hm := do_meet_A (h _ (gA_mem hi')) (h6 _ (gA_mem hj))
          refine ⟨_, rfl, ?_⟩
          cases hc : meets (gA r i) (gA r (i + 1 + k)) with
          | true =>
            rw [hc] at hm
            refine ⟨_, ?_, ⟨some (.int ((i + 1 + k : Nat) : Int)), rfl⟩⟩
            simp only [PP.b_find_apart_1, st_If, tv_Not, tv_V, ev_F, ev_2, av_C, av_N, v_S, v_0, List.set_cons_succ, List.set_cons_zero, R.bind_ok, hidx, hm, asB_b, wr_o, Bool.not_true, Bool.false_eq_true, if_false, st_Nx]
          | false =>
            rw [hc] at hm
            show PP.b_find_apart_1 _ = .rt _
            simp only [PP.b_find_apart_1, st_If, tv_Not, tv_V, ev_F, ev_2, av_C, av_N, v_S, v_0, List.set_cons_succ, List.set_cons_zero, R.bind_ok, hidx, hm, asB_b, wr_o, Bool.not_false, if_true, st_Ret, ev_Tup, List.length_cons, List.length_nil, Nat.reduceAdd, Nat.zero_add, lim2', apartD])
      rw [findSome_map] at inner
      have hlp : PP.b_find_apart_2 [some (dR r), some (.int i), some (dA (gA r i)), z] = loopF (gN 3) PP.b_find_apart_1 ((List.range (r.length - (i + 1))).map fun k : Nat => D.int ((i + 1 + k : Nat) : Int)) [some (dR r), some (.int i), some (dA (gA r i)), z] := by
        have hlen : D.bLen [dR r] = .ok (.int (r.length : Nat)) := by rw [dR, bLen_t, List.length_map]
        have hr := rng_NN (s := i + 1) (e := r.length) (by omega) (by omega) (by omega)
        have hr : rng ((i : Int) + 1) (r.length : Nat) = .ok ((List.range (r.length - (i + 1))).map fun k : Nat => D.int ((i + 1 + k : Nat) : Int)) := hr
        simp only [PP.b_find_apart_2, st_For, iv_A, av_C, av_N, ev_2, ev_F, ev_C, v_S, v_0, R.bind_ok, add_i, hlen, rngA_2, hr, wr_o]
      show match ((List.range (r.length - (i + 1))).findSome? fun k => if meets (gA r i) (gA r (i + 1 + k)) then none else some (i, i + 1 + k)).map fun p => apartD (some p) with
        | some d => PP.b_find_apart_2 [some (dR r), some (.int i), some (dA (gA r i)), z] = .rt d
        | none => ∃ ρ2, PP.b_find_apart_2 [some (dR r), some (.int i), some (dA (gA r i)), z] = .nx ρ2 ∧ ∃ x y z, ρ2 = [some (dR r), x, y, z]
      rw [hlp]
      cases hc : ((List.range (r.length - (i + 1))).findSome? fun k => if meets (gA r i) (gA r (i + 1 + k)) then none else some (i, i + 1 + k)).map fun p => apartD (some p) with
      | some d => rw [hc] at inner; exact inner
      | none =>
        rw [hc] at inner
        obtain ⟨ρ2, e1, z, e2⟩ := inner
        exact ⟨ρ2, e1, _, _, _, e2⟩)
  rw [findSome_map] at key
  have hen : enumA [dR r] = .ok ((List.range r.length).map fun i : Nat => D.tup [.int (i : Nat), dA (gA r i)]) := by
    rw [dR, enum_t, zip_upto, zip_range (1, 0), List.map_map]
    rfl
  have hap : apartOf r = (List.range r.length).findSome? fun i => (List.range (r.length - (i + 1))).findSome? fun k => if meets (gA r i) (gA r (i + 1 + k)) then none else some (i, i + 1 + k) := rfl
  rw [← hap] at key
  simp only [PP.d_find_apart, PP.s_find_apart, body_eq, List.map_cons, List.map_nil, List.replicate, List.cons_append, List.nil_append, st_Seq, st_For, iv_A, av_C, av_N, v_0, R.bind_ok, hen, wr_o]
  cases hc : apartOf r with
  | some p =>
    rw [hc] at key
    have key : loopF _ _ _ _ = .rt (apartD (some p)) := key
    rw [key]
    rfl
  | none =>
    rw [hc] at key
    obtain ⟨ρ2, e1, -⟩ : ∃ ρ2, loopF _ _ _ _ = .nx ρ2 ∧ _ := key
    rw [e1]
    rfl
theorem apart_none {r : List A} : apartOf r = none ↔ r.Pairwise (fun a b => meets a b = true) := by
  rw [apartOf, List.findSome?_eq_none_iff, List.pairwise_iff_getElem]
  constructor
  · intro h i j hi hj hij
    have h1 := List.findSome?_eq_none_iff.mp (h i (List.mem_range.mpr hi)) (j - (i + 1)) (List.mem_range.mpr (by omega))
    rw [show i + 1 + (j - (i + 1)) = j by omega, gA_lt hi, gA_lt hj] at h1
    by_cases hm : meets r[i] r[j] = true
    · exact hm
    · rw [if_neg hm] at h1; cases h1
  · intro h i hi
    have hi' := List.mem_range.mp hi
    rw [List.findSome?_eq_none_iff]
    intro k hk
    have hk' := List.mem_range.mp hk
    have hj : i + 1 + k < r.length := by omega
    rw [gA_lt hi', gA_lt hj, if_pos (h i (i + 1 + k) hi' hj (by omega))]
end RT

namespace RT
/-! S6: groups and crowds -/
def raw : Nat → List (List Nat)
  | 0 => [[]]
  | n + 1 => raw n ++ (raw n).map fun g => g ++ [n]
theorem raw_len : ∀ n, (raw n).length = 2 ^ n
  | 0 => rfl
  | n + 1 => by rw [raw, List.length_append, List.length_map, raw_len n, Nat.pow_succ]; omega
theorem raw_item : ∀ {n : Nat} {g : List Nat}, g ∈ raw n → g.length ≤ n ∧ g.Pairwise (· < ·) ∧ ∀ x ∈ g, x < n
  | 0, g, h => by simp [raw] at h; subst h; simp
  | n + 1, g, h => by
    rcases List.mem_append.mp h with h | h
    · obtain ⟨h1, h2, h3⟩ := raw_item h
      exact ⟨by omega, h2, fun x hx => by have := h3 x hx; omega⟩
    · obtain ⟨q, hq, rfl⟩ := List.mem_map.mp h
      obtain ⟨h1, h2, h3⟩ := raw_item hq
      refine ⟨by simp; omega, List.pairwise_append.mpr ⟨h2, by simp, fun x hx y hy => ?_⟩, fun x hx => ?_⟩
      · rw [List.mem_singleton.mp hy]; exact h3 x hx
      · rcases List.mem_append.mp hx with hx | hx
        · have := h3 x hx; omega
        · rw [List.mem_singleton.mp hx]; omega
theorem raw_mem : ∀ {n : Nat} {g : List Nat}, g.Pairwise (· < ·) → (∀ x ∈ g, x < n) → g ∈ raw n
  | 0, g, _, h => by
    cases g with
    | nil => simp [raw]
    | cons x g => exact absurd (h x (by simp)) (by omega)
  | n + 1, g, hp, h => by
    rw [raw, List.mem_append]
    by_cases hn : n ∈ g
    · refine .inr (List.mem_map.mpr ⟨g.filter (· < n), ?_, ?_⟩)
      · exact raw_mem (hp.filter _) fun x hx => by simpa using (List.mem_filter.mp hx).2
      · refine sorted_ext ?_ hp fun x => ?_
        · refine List.pairwise_append.mpr ⟨hp.filter _, by simp, fun x hx y hy => ?_⟩
          rw [List.mem_singleton.mp hy]
          simpa using (List.mem_filter.mp hx).2
        · rw [List.mem_append, List.mem_filter, List.mem_singleton, decide_eq_true_eq]
          constructor
          · rintro (⟨h1, _⟩ | h1)
            · exact h1
            · rw [h1]; exact hn
          · intro hx
            have := h x hx
            by_cases e : x = n
            · exact .inr e
            · exact .inl ⟨hx, by omega⟩
    · refine .inl (raw_mem hp fun x hx => ?_)
      have := h x hx
      have : x ≠ n := fun e => hn (e ▸ hx)
      omega
def dG (g : List Nat) : D := .tup (g.map fun k => .int (k : Nat))
def castL (g : List Nat) : List Int := g.map fun k : Nat => (k : Int)
theorem dG_eq (g : List Nat) : dG g = D.tupI (castL g) := by rw [dG, D.tupI, castL, List.map_map]; rfl
/-- the groups, in order -/
def grpI (n : Nat) : List (List Int) := (((raw n).filter fun g => !g.isEmpty).map castL).mergeSort D.upL
def grp (n : Nat) : List (List Nat) := (grpI n).map fun l => l.map Int.toNat
theorem toNat_cast (g : List Nat) : (castL g).map Int.toNat = g := by
  rw [castL, List.map_map]
  have : (Int.toNat ∘ fun k : Nat => (k : Int)) = id := by funext k; simp
  rw [this, List.map_id]
theorem grpI_mem {n : Nat} {l : List Int} : l ∈ grpI n ↔ ∃ g ∈ raw n, g ≠ [] ∧ l = castL g := by
  rw [grpI, List.mem_mergeSort, List.mem_map]
  constructor
  · rintro ⟨g, hg, rfl⟩
    obtain ⟨h1, h2⟩ := List.mem_filter.mp hg
    exact ⟨g, h1, by simpa using h2, rfl⟩
  · rintro ⟨g, h1, h2, rfl⟩
    exact ⟨g, List.mem_filter.mpr ⟨h1, by simpa using h2⟩, rfl⟩
theorem grp_mem {n : Nat} {g : List Nat} : g ∈ grp n ↔ g ≠ [] ∧ g.Pairwise (· < ·) ∧ ∀ x ∈ g, x < n := by
  rw [grp, List.mem_map]
  constructor
  · rintro ⟨l, hl, rfl⟩
    obtain ⟨q, h1, h2, rfl⟩ := grpI_mem.mp hl
    rw [toNat_cast]
    exact ⟨h2, (raw_item h1).2⟩
  · rintro ⟨h1, h2, h3⟩
    exact ⟨castL g, grpI_mem.mpr ⟨g, raw_mem h2 h3, h1, rfl⟩, toNat_cast g⟩
theorem grp_dG (n : Nat) : (grpI n).map D.tupI = (grp n).map dG := by
  rw [grp, List.map_map]
  apply List.map_congr_left
  intro l hl
  obtain ⟨g, _, _, rfl⟩ := grpI_mem.mp hl
  simp only [Function.comp, toNat_cast, dG_eq]
theorem tupsOf_map : ∀ {ls : List (List Int)}, (∀ l ∈ ls, l ≠ []) → D.tupsOf (ls.map D.tupI) = some ls
  | [], _ => rfl
  | l :: ls, h => by
    have ih := tupsOf_map (ls := ls) fun l hl => h l (by simp [hl])
    cases l with
    | nil => exact absurd rfl (h [] (by simp))
    | cons i l =>
      have hi := intsOf_map (f := fun a : Int => a) (i :: l)
      rw [List.map_cons (f := fun a : Int => a)] at hi
      simp only [List.map_cons, D.tupI, D.tupsOf]
      simp only [List.map_cons, List.map_id'] at hi
      rw [hi]
      simp only
      have ih' : D.tupsOf (ls.map fun l => D.tup (l.map D.int)) = some ls := ih
      show (D.tupsOf (ls.map D.tupI)).map _ = _
      rw [ih]
      rfl
theorem okD_dG (g : List Nat) : okD (dG g) := okD_of 1 (okN_tup fun x h => by
  obtain ⟨a, _, rfl⟩ := List.mem_map.mp h
  exact okN_int)
theorem okD_dGs (gs : List (List Nat)) : okD (.lst (gs.map dG)) := okD_of 2 (okN_lst fun x h => by
  obtain ⟨g, _, rfl⟩ := List.mem_map.mp h
  exact okN_tup fun x h => by
    obtain ⟨a, _, rfl⟩ := List.mem_map.mp h
    exact okN_int)
theorem ne_tnil {xs : List D} (h : okD (.tup xs)) : D.ne (.tup xs) (.tup []) = .ok (.bl (!xs.isEmpty)) := by
  rw [ne_ok h okD_tnil]
  cases xs <;> simp [D.eqv, D.eqvL]
theorem add_ll {xs ys : List D} (h : xs.length + ys.length ≤ lim) : D.add (.lst xs) (.lst ys) = .ok (.lst (xs ++ ys)) := by simp [D.add, h]
theorem add_tt {xs ys : List D} (h : xs.length + ys.length ≤ lim) : D.add (.tup xs) (.tup ys) = .ok (.tup (xs ++ ys)) := by simp [D.add, h]
theorem pow_small {n : Nat} (h : n ≤ 6) : 2 ^ n ≤ 64 := Nat.le_trans (Nat.pow_le_pow_right (by decide) h) (by decide)
theorem all_groups_ok {n : Nat} (hn : n ≤ 6) : PP.d_all_groups [.int n] = .ok (.lst ((grp n).map dG)) := by
  -- by the number of turns
  have run : ∀ k, k ≤ n → ∃ x y, loopF (gN 2) PP.b_all_groups_1 ((List.range k).map fun k => .int (k : Nat)) [some (.int n), some (.lst [.tup []]), none, none] = .nx [some (.int n), some (.lst ((raw k).map dG)), x, y] := by
    intro k
    induction k with
    | zero => exact fun _ => ⟨none, none, rfl⟩
    | succ k ih =>
      intro hk
      obtain ⟨x, y, e⟩ := ih (by omega)
      have app : ∀ (l m : List D) (ρ ρ' : Env), loopF (gN 2) PP.b_all_groups_1 l ρ = .nx ρ' → loopF (gN 2) PP.b_all_groups_1 (l ++ m) ρ = loopF (gN 2) PP.b_all_groups_1 m ρ' := by
        intro l
        induction l with
        | nil => intro m ρ ρ' h; cases h; rfl
        | cons d l ih =>
          intro m ρ ρ' h
          simp only [List.cons_append, loopF, gv_N] at h ⊢
          cases hb : PP.b_all_groups_1 (ρ.set 2 (some d)) with
          | nx ρ3 => rw [hb] at h; exact ih m ρ3 ρ' h
          | rt d => rw [hb] at h; cases h
          | er c ρ3 => rw [hb] at h; cases h
          | stuck => rw [hb] at h; cases h
      have hc : compL (gN 3) tYesF (e2 D.add (eV 3) (eTup (aC (eV 2) aN))) [some (.int n), some (.lst ((raw k).map dG)), some (.int k), none] ((raw k).map dG) = .ok ((raw k).map fun g => dG (g ++ [k])) :=
        compL_all _ _ _ fun g hg => ⟨_, rfl, by
          have hl := (raw_item hg).1
          have : D.add (dG g) (.tup [.int (k : Nat)]) = .ok (dG (g ++ [k])) := by
            rw [dG, add_tt (by rw [List.length_map]; exact lim2 (by simp; omega)), dG, List.map_append]
            rfl
          simp only [ev_2, v_S, v_0, List.set_cons_succ, List.set_cons_zero, R.bind_ok, ev_Tup, av_C, av_N, List.length_cons, List.length_nil, Nat.reduceAdd, Nat.zero_add, lim1, if_true, this]⟩
      have hs : D.add (.lst ((raw k).map dG)) (.lst ((raw k).map fun g => dG (g ++ [k]))) = .ok (.lst ((raw (k + 1)).map dG)) := by
        rw [add_ll (by rw [List.length_map, List.length_map, raw_len]; have := pow_small (n := k) (by omega); exact lim2 (by omega)), raw, List.map_append, List.map_map]
        rfl
      refine ⟨some (.int k), y, ?_⟩
      rw [List.range_succ, List.map_append, app _ _ _ _ e]
      simp only [List.map_cons, List.map_nil, loopF, gv_N, List.set_cons_succ, List.set_cons_zero, PP.b_all_groups_1, st_Set, ev_2, v_S, v_0, ev_Comp, iv_Items, items_l, R.bind_ok, wv_C, wv_0, hc, hs, wr_o, at_n]
  obtain ⟨x, y, e⟩ := run n (Nat.le_refl n)
  have hc : compL (gN 3) (tV (e2 D.ne (eV 3) (eTup aN))) (eV 3) [some (.int n), some (.lst ((raw n).map dG)), x, none] ((raw n).map dG) = .ok (((raw n).filter fun g => !g.isEmpty).map dG) :=
    compL_ok _ _ _ _ fun g _ => ⟨_, rfl, by
      have : D.ne (dG g) (.tup []) = .ok (.bl (!g.isEmpty)) := by
        rw [dG, ne_tnil (okD_dG g)]; cases g <;> rfl
      simp only [tv_V, ev_2, v_S, v_0, List.set_cons_succ, List.set_cons_zero, ev_Tup, av_N, R.bind_ok, List.length_nil, Nat.zero_le, if_true, this, asB_b], fun _ => rfl⟩
  have hsort : D.bSorted [.lst (((raw n).filter fun g => !g.isEmpty).map dG)] = .ok (.lst ((grp n).map dG)) := by
    have e1 : (((raw n).filter fun g => !g.isEmpty).map dG) = (((raw n).filter fun g => !g.isEmpty).map castL).map D.tupI := by
      rw [List.map_map]
      apply List.map_congr_left
      intro g _
      exact dG_eq g
    have e2 := tupsOf_map (ls := ((raw n).filter fun g => !g.isEmpty).map castL) (by
      intro l hl
      obtain ⟨g, hg, rfl⟩ := List.mem_map.mp hl
      have h2 := (List.mem_filter.mp hg).2
      cases g with
      | nil => simp at h2
      | cons x g => simp [castL])
    rw [← grp_dG, e1]
    simp only [D.bSorted]
    rw [e2]
    simp only
    generalize hz : (((raw n).filter fun g => !g.isEmpty).map castL) = ls
    cases ls with
    | nil =>
      simp only [grpI, hz, List.map_nil, D.intsOf, List.mergeSort_nil]
    | cons l ls =>
      have : D.intsOf ((l :: ls).map D.tupI) = none := rfl
      rw [this, grpI, hz]
  simp only [PP.d_all_groups, PP.s_all_groups, body_eq, List.map_cons, List.map_nil, List.replicate, List.cons_append, List.nil_append, st_Seq, st_Set, ev_Lst, ev_Tup, av_C, av_N, R.bind_ok, List.length_cons, List.length_nil, Nat.zero_add, lim0, lim1, if_true, wr_o, List.set_cons_succ, List.set_cons_zero, at_n, st_For, iv_A, v_0, rngA_1]
  rw [rng_nat (lim2 (by omega))]
  simp only [R.bind_ok, wr_o, e, at_n, st_Ret, ev_F, av_C, av_N, ev_Comp, iv_Items, v_S, v_0, items_l, wv_C, wv_0, List.set_cons_succ, List.set_cons_zero, hc, hsort]
end RT

namespace RT
/-! S7: meeting groups, the greatest crowd, crowds -/
theorem okR.b {r : List A} (h : okR r) : ∀ a ∈ r, okB a := fun a ha => (h.2 a ha).b
def pickR (r : List A) (g : List Nat) : List A := g.map fun k => gA r k
theorem chosen_ok {r : List A} {g : List Nat} (h : ∀ k ∈ g, k < r.length) : PP.d_chosen [dR r, dG g] = .ok (dR (pickR r g)) := by
  have hc : compL (gN 2) tYesF (e2 D.idx (eV 0) (eV 2)) [some (dR r), some (dG g), none] (g.map fun k => .int (k : Nat)) = .ok (g.map fun k => dA (gA r k)) :=
    compL_all _ _ _ fun k hk => ⟨_, rfl, by
      have hlt := h k hk
      have : D.idx (dR r) (.int (k : Nat)) = .ok (dA (gA r k)) := by
        rw [dR, idx_t]
        refine at_nat ?_
        rw [List.getElem?_map, List.getElem?_eq_getElem hlt, gA_lt hlt]
        rfl
      simp only [ev_2, v_S, v_0, List.set_cons_succ, List.set_cons_zero, R.bind_ok, this]⟩
  have hi : D.items (dG g) = .ok (g.map fun k => .int (k : Nat)) := rfl
  simp only [PP.d_chosen, PP.s_chosen, body_eq, List.map_cons, List.map_nil, List.replicate, List.cons_append, List.nil_append, st_Ret, ev_F, av_C, av_N, ev_Comp, iv_Items, v_S, v_0, R.bind_ok, hi, wv_C, wv_0, List.set_cons_succ, List.set_cons_zero, hc, bTuple_l, wr_o]
  rw [dR, pickR, List.map_map]
  rfl
/-- the groups whose alarms meet pair by pair -/
def mgr (r : List A) : List (List Nat) := (grp r.length).filter fun g => (apartOf (pickR r g)).isNone
theorem pick_mem {r : List A} {g : List Nat} (h : ∀ k ∈ g, k < r.length) : ∀ a ∈ pickR r g, a ∈ r := fun a ha => by
  obtain ⟨k, hk, rfl⟩ := List.mem_map.mp ha
  exact gA_mem (h k hk)
theorem isNone_apart (o : Option (Nat × Nat)) : (apartD o).isNone = o.isNone := by
  cases o with
  | none => rfl
  | some p => obtain ⟨i, j⟩ := p; rfl
theorem lenR (r : List A) : D.bLen [dR r] = .ok (.int (r.length : Nat)) := by rw [dR, bLen_t, List.length_map]
theorem lenG (g : List Nat) : D.bLen [dG g] = .ok (.int (g.length : Nat)) := by rw [dG, bLen_t, List.length_map]
theorem lenN (g : List Nat) : D.bLen [dN g] = .ok (.int (g.length : Nat)) := by rw [dN, bLen_l, List.length_map]
theorem meeting_groups_R {r : List A} (h : okR r) : PP.d_meeting_groups [dR r] = .ok (.lst ((mgr r).map dG)) := by
  have hc : compL (gN 1) (tV (eNone (eF PP.d_find_apart (aC (eF PP.d_chosen (aC (eV 0) (aC (eV 1) aN))) aN)))) (eV 1) [some (dR r), none] ((grp r.length).map dG) = .ok ((mgr r).map dG) :=
    compL_ok _ _ _ _ fun g hg => ⟨_, rfl, by
      obtain ⟨-, h2, h3⟩ := grp_mem.mp hg
      have hm := pick_mem h3
      have hl : (pickR r g).length ≤ 1000 := by
        have hg6 : g.length ≤ r.length := by
          have := (raw_item (raw_mem h2 h3)).1; exact this
        rw [pickR, List.length_map]; have := h.1; omega
      have := find_apart_R (r := pickR r g) (fun a ha => h.b a (hm a ha)) (fun a ha => by have := (h.2 a (hm a ha)).2.1; omega) hl
      simp only [tv_V, ev_None, ev_F, av_C, av_N, v_S, v_0, List.set_cons_succ, List.set_cons_zero, R.bind_ok, chosen_ok h3, this, isNone_apart, asB_b], fun _ => rfl⟩
  simp only [PP.d_meeting_groups, PP.s_meeting_groups, body_eq, List.map_cons, List.map_nil, List.replicate, List.cons_append, List.nil_append, st_Ret, ev_Comp, iv_Items, ev_F, av_C, av_N, v_0, R.bind_ok, lenR, all_groups_ok h.1, items_l, wv_C, wv_0, List.set_cons_succ, List.set_cons_zero, hc, wr_o]
/-- the greatest crowd -/
def crowd (r : List A) : Nat := (D.maxI (0 :: (mgr r).map fun g => (g.length : Int))).toNat
theorem crowd_spec (r : List A) : (∀ g ∈ mgr r, g.length ≤ crowd r) ∧ (crowd r = 0 ∨ ∃ g ∈ mgr r, g.length = crowd r) ∧ D.maxI (0 :: (mgr r).map fun g => (g.length : Int)) = (crowd r : Nat) := by
  have hm := maxI_mem (xs := 0 :: (mgr r).map fun g => (g.length : Int)) (by simp)
  have hle : ∀ {xs : List Int} {x : Int}, x ∈ xs → x ≤ D.maxI xs := by
    intro xs
    induction xs with
    | nil => intro x h; simp at h
    | cons y ys ih =>
      intro x h
      cases ys with
      | nil => simp at h; simp [D.maxI, h]
      | cons z zs =>
        show x ≤ (let q := D.maxI (z :: zs); if q < y then y else q)
        show x ≤ (if D.maxI (z :: zs) < y then y else D.maxI (z :: zs))
        rcases List.mem_cons.mp h with e | h
        · subst e; split <;> omega
        · have := ih h; split <;> omega
  have h0 : (0 : Int) ≤ D.maxI (0 :: (mgr r).map fun g => (g.length : Int)) := hle (by simp)
  have e : D.maxI (0 :: (mgr r).map fun g => (g.length : Int)) = (crowd r : Nat) := by rw [crowd]; omega
  refine ⟨fun g hg => ?_, ?_, e⟩
  · have := hle (xs := 0 :: (mgr r).map fun g => (g.length : Int)) (x := (g.length : Nat)) (List.mem_cons_of_mem _ (List.mem_map.mpr ⟨g, hg, rfl⟩))
    rw [e] at this
    omega
  · rw [e] at hm
    rcases List.mem_cons.mp hm with q | q
    · exact .inl (by omega)
    · obtain ⟨g, hg, q⟩ := List.mem_map.mp q
      exact .inr ⟨g, hg, by omega⟩
theorem find_crowd_R {r : List A} (h : okR r) : PP.d_find_crowd [dR r] = .ok (.int (crowd r : Nat)) := by
  have hc : compL (gN 1) tYesF (eF D.bLen (aC (eV 1) aN)) [some (dR r), none] ((mgr r).map dG) = .ok ((mgr r).map fun g => .int (g.length : Nat)) :=
    compL_all _ _ _ fun g _ => ⟨_, rfl, by simp only [ev_F, av_C, av_N, v_S, v_0, List.set_cons_succ, List.set_cons_zero, R.bind_ok, lenG]⟩
  have hlen : (mgr r).length ≤ 64 := by
    have h1 : (mgr r).length ≤ (grp r.length).length := List.length_filter_le _ _
    have h2 : (grp r.length).length ≤ (raw r.length).length := by
      rw [grp, List.length_map, grpI, List.length_mergeSort, List.length_map]; exact List.length_filter_le _ _
    rw [raw_len] at h2
    have := pow_small h.1
    omega
  have hadd : D.add (.lst [.int 0]) (.lst ((mgr r).map fun g => .int (g.length : Nat))) = .ok (.lst (.int 0 :: (mgr r).map fun g => .int (g.length : Nat))) := by
    rw [add_ll (by rw [List.length_map]; exact lim2 (by simp; omega))]; rfl
  have hmax : D.bMax [.lst (.int 0 :: (mgr r).map fun g => .int (g.length : Nat))] = .ok (.int (crowd r : Nat)) := by
    have := intsOf_map (f := fun g : List Nat => (g.length : Int)) (mgr r)
    simp only [D.bMax, D.onInts, D.intsOf, this, Option.map_some, List.isEmpty_cons, Bool.false_eq_true, if_false, (crowd_spec r).2.2]
  simp only [PP.d_find_crowd, PP.s_find_crowd, body_eq, List.map_cons, List.map_nil, List.replicate, List.cons_append, List.nil_append, st_Ret, ev_F, av_C, av_N, ev_2, ev_Lst, ev_C, List.length_cons, List.length_nil, Nat.zero_add, lim1, if_true, ev_Comp, iv_Items, v_0, R.bind_ok, meeting_groups_R h, items_l, wv_C, wv_0, List.set_cons_succ, List.set_cons_zero, hc, hadd, hmax, wr_o]
theorem greatest_crowd_R {r : List A} (h : okR r) : PP.d_greatest_crowd [dR r] = .ok (.int (crowd r : Nat)) := by
  simp only [PP.d_greatest_crowd, PP.s_greatest_crowd, body_eq, List.map_cons, List.map_nil, List.replicate, List.append_nil, st_Seq, st_Drop, ev_F, av_C, av_N, v_0, R.bind_ok, check_row_R h, wr_o, at_n, st_Ret, find_crowd_R h]
def bigR (r : List A) : List (List Nat) := (mgr r).filter fun g => decide (g.length = crowd r)
theorem find_groups_R {r : List A} (h : okR r) : PP.d_find_groups [dR r] = .ok (.lst ((bigR r).map dG)) := by
  have hc : compL (gN 2) (tV (e2 D.eq (eF D.bLen (aC (eV 2) aN)) (eV 1))) (eV 2) [some (dR r), some (.int (crowd r : Nat)), none] ((mgr r).map dG) = .ok ((bigR r).map dG) :=
    compL_ok _ _ _ _ fun g _ => ⟨_, rfl, by
      have : decide ((g.length : Int) = (crowd r : Nat)) = decide (g.length = crowd r) := by
        rw [Bool.eq_iff_iff, decide_eq_true_eq, decide_eq_true_eq]; exact Int.ofNat_inj
      simp only [tv_V, ev_2, ev_F, av_C, av_N, v_S, v_0, List.set_cons_succ, List.set_cons_zero, R.bind_ok, lenG, eq_i, asB_b, this], fun _ => rfl⟩
  simp only [PP.d_find_groups, PP.s_find_groups, body_eq, List.map_cons, List.map_nil, List.replicate, List.cons_append, List.nil_append, st_Seq, st_Set, ev_F, av_C, av_N, v_0, R.bind_ok, find_crowd_R h, wr_o, List.set_cons_succ, List.set_cons_zero, at_n, st_Ret, ev_Comp, iv_Items, meeting_groups_R h, items_l, wv_C, wv_0, hc]
theorem largest_groups_R {r : List A} (h : okR r) : PP.d_largest_groups [dR r] = .ok (.lst ((bigR r).map dG)) := by
  simp only [PP.d_largest_groups, PP.s_largest_groups, body_eq, List.map_cons, List.map_nil, List.replicate, List.append_nil, st_Seq, st_Drop, ev_F, av_C, av_N, v_0, R.bind_ok, check_row_R h, wr_o, at_n, st_Ret, find_groups_R h]
/-! crowds and times -/
theorem heard_mem {r : List A} {t i : Nat} : i ∈ heard r t ↔ i < r.length ∧ ringsAt (gA r i) t = true := by
  rw [heard, List.mem_filter, List.mem_range]
  constructor
  · rintro ⟨h1, h2⟩
    rw [List.getElem?_eq_getElem h1] at h2
    rw [gA_lt h1]
    exact ⟨h1, h2⟩
  · rintro ⟨h1, h2⟩
    rw [List.getElem?_eq_getElem h1]
    rw [gA_lt h1] at h2
    exact ⟨h1, h2⟩
theorem heard_sorted (r : List A) (t : Nat) : (heard r t).Pairwise (· < ·) := sorted_filter _ _
theorem pairwise_pick {r : List A} {g : List Nat} {t : Nat} (h : ∀ k ∈ g, ringsAt (gA r k) t = true) : (pickR r g).Pairwise (fun a b => meets a b = true) := by
  rw [pickR, List.pairwise_map]
  rw [List.pairwise_iff_getElem]
  intro i j hi hj _
  exact meets_of (h _ (List.getElem_mem hi)) (h _ (List.getElem_mem hj))
theorem mem_mgr {r : List A} {g : List Nat} : g ∈ mgr r ↔ (g ≠ [] ∧ g.Pairwise (· < ·) ∧ ∀ x ∈ g, x < r.length) ∧ (pickR r g).Pairwise (fun a b => meets a b = true) := by
  rw [mgr, List.mem_filter, grp_mem, ← apart_none]
  simp
theorem heard_le (r : List A) (t : Nat) : (heard r t).length ≤ crowd r := by
  cases hh : heard r t with
  | nil => exact Nat.zero_le _
  | cons x xs =>
    rw [← hh]
    refine (crowd_spec r).1 _ (mem_mgr.mpr ⟨⟨by rw [hh]; simp, heard_sorted r t, fun x hx => (heard_mem.mp hx).1⟩, pairwise_pick fun k hk => (heard_mem.mp hk).2⟩)
theorem sub_len {g m : List Nat} {n : Nat} (hg : g.Pairwise (· < ·)) (hm : m.Pairwise (· < ·)) (hn : ∀ x ∈ m, x < n) (h : ∀ x ∈ g, x ∈ m) : g.length ≤ m.length := by
  have e1 : g = (List.range n).filter fun x => decide (x ∈ g) := sorted_ext hg (sorted_filter _ _) fun x => by
    rw [List.mem_filter, List.mem_range, decide_eq_true_eq]
    exact ⟨fun q => ⟨hn x (h x q), q⟩, fun q => q.2⟩
  have e2 : m = (List.range n).filter fun x => decide (x ∈ m) := sorted_ext hm (sorted_filter _ _) fun x => by
    rw [List.mem_filter, List.mem_range, decide_eq_true_eq]
    exact ⟨fun q => ⟨hn x q, q⟩, fun q => q.2⟩
  rw [e1, e2, ← List.countP_eq_length_filter, ← List.countP_eq_length_filter]
  exact List.countP_mono_left fun x _ hx => by simpa using h x (by simpa using hx)
theorem crowd_time {r : List A} (h : ∀ a ∈ r, okA a) : ∃ t, t < cyc r ∧ (heard r t).length = crowd r := by
  rcases (crowd_spec r).2.1 with h0 | ⟨g, hg, he⟩
  · refine ⟨0, cyc_pos h, ?_⟩
    have := heard_le r 0
    omega
  · obtain ⟨⟨-, h2, h3⟩, h4⟩ := mem_mgr.mp hg
    obtain ⟨t0, -, ht⟩ := row_join' (r := pickR r g) (fun a ha => h a (pick_mem h3 a ha)) h4
    have hr : ∀ k ∈ g, k ∈ heard r (t0 % cyc r) := fun k hk => by
      have hk' := ht (gA r k) (List.mem_map.mpr ⟨k, hk, rfl⟩)
      refine heard_mem.mpr ⟨h3 k hk, ?_⟩
      rw [rings_iff] at hk' ⊢
      rw [Nat.mod_mod_of_dvd _ (dvd_cyc (gA_mem (h3 k hk)))]
      exact hk'
    refine ⟨t0 % cyc r, Nat.mod_lt _ (cyc_pos h), ?_⟩
    have l1 := sub_len h2 (heard_sorted r _) (fun x hx => (heard_mem.mp hx).1) hr
    have l2 := heard_le r (t0 % cyc r)
    omega
theorem heard_shift {r : List A} {t L : Nat} (h : ∀ a ∈ r, a.1 ∣ L) : heard r (t + L) = heard r t := by
  refine sorted_ext (heard_sorted _ _) (heard_sorted _ _) fun i => ?_
  rw [heard_mem, heard_mem]
  constructor
  · rintro ⟨h1, h2⟩; rw [mod_shift (h _ (gA_mem h1))] at h2; exact ⟨h1, h2⟩
  · rintro ⟨h1, h2⟩; rw [← mod_shift (h _ (gA_mem h1))] at h2; exact ⟨h1, h2⟩
/-- how many times of a cycle have a crowd of k -/
def cnt (r : List A) (L k : Nat) : Nat := ((List.range L).map fun t => (heard r t).length).count k
def cntD (r : List A) (L : Nat) : List Nat := (List.range (r.length + 1)).map fun k => cnt r L k
theorem cnt_succ (r : List A) (L k : Nat) : cnt r (L + 1) k = cnt r L k + if (heard r L).length = k then 1 else 0 := by
  rw [cnt, List.range_succ, List.map_append, List.count_append, cnt]
  congr 1
  simp [List.count_cons]
theorem heard_len_le (r : List A) (t : Nat) : (heard r t).length ≤ r.length := by rw [heard_len]; exact List.countP_le_length
theorem check_cycle_R {r : List A} (h : okR r) (hc : cyc r ≤ 5000) : PP.d_check_cycle [dR r] = .ok .non := by
  have : ¬ (5000 : Int) < (cyc r : Nat) := by omega
  simp only [PP.d_check_cycle, PP.s_check_cycle, body_eq, List.map_cons, List.map_nil, List.replicate, List.append_nil, st_Seq, st_Drop, ev_F, av_C, av_N, v_0, R.bind_ok, check_row_R h, wr_o, at_n, st_If, tv_V, ev_2, find_cycle_R h.2, ev_C, gt_i, decide_eq_false this, asB_b, Bool.false_eq_true, if_false, st_Nx]
theorem mul_l {xs : List D} {k : Int} (h1 : -(2 ^ 63) ≤ k) (h2 : k < 2 ^ 63) (h3 : xs.length * k.toNat ≤ lim) : D.mul (.lst xs) (.int k) = .ok (.lst (List.replicate k.toNat xs).flatten) := by
  show (if (decide (-(2 ^ 63) ≤ k) && decide (k < 2 ^ 63) && decide (xs.length * k.toNat ≤ lim)) = true then R.ok (D.lst (List.replicate k.toNat xs).flatten) else R.stuck) = _
  rw [decide_eq_true h1, decide_eq_true h2, decide_eq_true h3]
  rfl
theorem crowds_R {r : List A} (h : okR r) (hc : cyc r ≤ 5000) : PP.d_crowds [dR r] = .ok (dN (cntD r (cyc r))) := by
  have run : ∀ L, ∃ x y, loopF (gN 2) PP.b_crowds_1 ((List.range L).map fun k => .int (k : Nat)) [some (dR r), some (dN (cntD r 0)), none, none] = .nx [some (dR r), some (dN (cntD r L)), x, y] := by
    intro L
    induction L with
    | zero => exact ⟨none, none, rfl⟩
    | succ L ih =>
      obtain ⟨x, y, e⟩ := ih
      have app : ∀ (l m : List D) (ρ ρ' : Env), loopF (gN 2) PP.b_crowds_1 l ρ = .nx ρ' → loopF (gN 2) PP.b_crowds_1 (l ++ m) ρ = loopF (gN 2) PP.b_crowds_1 m ρ' := by
        intro l
        induction l with
        | nil => intro m ρ ρ' h; cases h; rfl
        | cons d l ih =>
          intro m ρ ρ' h
          simp only [List.cons_append, loopF, gv_N] at h ⊢
          cases hb : PP.b_crowds_1 (ρ.set 2 (some d)) with
          | nx ρ3 => rw [hb] at h; exact ih m ρ3 ρ' h
          | rt d => rw [hb] at h; cases h
          | er c ρ3 => rw [hb] at h; cases h
          | stuck => rw [hb] at h; cases h
      have hl := heard_len_le r L
      have hlt : (heard r L).length < (cntD r L).length := by rw [cntD, List.length_map, List.length_range]; omega
      have hix : D.idx (dN (cntD r L)) (.int ((heard r L).length : Nat)) = .ok (.int (cnt r L (heard r L).length : Nat)) := by
        rw [dN, idx_l]
        refine at_nat ?_
        rw [List.getElem?_map, List.getElem?_eq_getElem hlt]
        simp only [cntD, List.getElem_map, List.getElem_range, Option.map_some]
      have hput : (cntD r L).set (heard r L).length (cnt r L (heard r L).length + 1) = cntD r (L + 1) := by
        apply List.ext_getElem
        · simp [cntD]
        · intro i h1 h2
          rw [List.getElem_set]
          simp only [cntD, List.getElem_map, List.getElem_range, cnt_succ]
          split
          · rename_i e; rw [e]
          · rfl
      refine ⟨some (.int L), some (.int ((heard r L).length : Nat)), ?_⟩
      rw [List.range_succ, List.map_append, app _ _ _ _ e]
      have hb : PP.b_crowds_1 [some (dR r), some (dN (cntD r L)), some (.int (L : Nat)), y] = .nx [some (dR r), some (dN (cntD r (L + 1))), some (.int (L : Nat)), some (.int ((heard r L).length : Nat))] := by
        have hg : ([some (dR r), some (dN (cntD r L)), some (.int (L : Nat)), some (.int ((heard r L).length : Nat))] : Env)[1]? = some (some (.lst ((cntD r L).map fun k => .int (k : Nat)))) := rfl
        have hcond : (0 : Int) ≤ ((heard r L).length : Nat) ∧ ((heard r L).length : Int) < (((cntD r L).map fun k => D.int (k : Nat)).length : Nat) := by rw [List.length_map]; omega
        have hset : ((cntD r L).map fun k => D.int (k : Nat)).set (((heard r L).length : Nat) : Int).toNat (.int ((cnt r L (heard r L).length : Nat) + 1 : Int)) = ((cntD r (L + 1)).map fun k => D.int (k : Nat)) := by
          rw [← hput, List.map_set]; rfl
        simp only [PP.b_crowds_1, st_Seq, st_Set, ev_F, av_C, av_N, v_S, v_0, R.bind_ok, find_ringing_R h, lenN, wr_o, List.set_cons_succ, List.set_cons_zero, at_n, st_Put, ev_2, ev_C, hix, add_i, hg, if_pos hcond, hset]
        rfl
      rw [List.map_cons, List.map_nil, loopF, gv_N]
      simp only [List.set_cons_succ, List.set_cons_zero, hb, at_n, loopF]
  obtain ⟨x, y, e⟩ := run (cyc r)
  have hinit : D.mul (.lst [.int 0]) (.int ((r.length : Int) + 1)) = .ok (dN (cntD r 0)) := by
    have hl := h.1
    have h1 : -(2 ^ 63) ≤ ((r.length : Int) + 1) := by omega
    have h2 : ((r.length : Int) + 1) < 2 ^ 63 := by omega
    have h3 : ([D.int 0].length * ((r.length : Int) + 1).toNat) ≤ lim := lim2 (by simp; omega)
    have e1 : ((r.length : Int) + 1).toNat = r.length + 1 := by omega
    have e2 : ∀ k : Nat, (List.replicate k [D.int 0]).flatten = (List.range k).map fun _ => D.int 0 := by
      intro k
      induction k with
      | zero => rfl
      | succ k ih => rw [List.replicate_succ', List.flatten_append, ih, List.range_succ, List.map_append]; rfl
    rw [mul_l h1 h2 h3, e1, e2]
    rw [dN, cntD, List.map_map]
    rfl
  have hmatch : dN (cntD r 0) = .lst ((cntD r 0).map fun k => .int (k : Nat)) := rfl
  have hpos := h
  simp only [PP.d_crowds, PP.s_crowds, body_eq, List.map_cons, List.map_nil, List.replicate, List.cons_append, List.nil_append, st_Seq, st_Drop, ev_F, av_C, av_N, v_0, R.bind_ok, check_cycle_R h hc, wr_o, at_n, st_SetO, ev_2, ev_Lst, ev_C, List.length_cons, List.length_nil, Nat.zero_add, lim1, if_true, lenR, add_i, hinit]
  simp only [dN, List.set_cons_succ, List.set_cons_zero, at_n, st_Seq, st_For, iv_A, av_C, av_N, ev_F, v_0, R.bind_ok, find_cycle_R h.2, rngA_1]
  rw [rng_nat (lim2 (by omega))]
  rw [dN] at e
  simp only [R.bind_ok, wr_o]
  rw [e]
  simp only [at_n, st_Ret, v_S, v_0, wr_o, dN]
end RT

namespace RT
/-! S8: moved rows; sums of counts -/
def mv (k : Nat) (a : A) : A := (a.1, (a.2 + k) % a.1)
theorem okA_mv {a : A} {k : Nat} (h : okA a) : okA (mv k a) := ⟨h.1, h.2.1, Nat.mod_lt _ h.1⟩
theorem okR_mv {r : List A} {k : Nat} (h : okR r) : okR (r.map (mv k)) := ⟨by rw [List.length_map]; exact h.1, fun a ha => by
  obtain ⟨b, hb, rfl⟩ := List.mem_map.mp ha
  exact okA_mv (h.2 b hb)⟩
theorem add_mod_cancel {t s k p : Nat} : (t + k) % p = (s + k) % p ↔ t % p = s % p := by
  have e : ∀ a b : Nat, a % p = b % p ↔ ((a : Int) - b) % p = 0 := fun a b => by
    rw [← Int.emod_eq_emod_iff_emod_sub_eq_zero, ← Int.natCast_emod, ← Int.natCast_emod]
    exact Int.ofNat_inj.symm
  rw [e, e]
  have : ((t + k : Nat) : Int) - ((s + k : Nat) : Int) = (t : Int) - s := by omega
  rw [this]
theorem rings_mv {a : A} {k t : Nat} (h : a.2 < a.1) : ringsAt (mv k a) (t + k) = ringsAt a t := by
  rw [Bool.eq_iff_iff, rings_iff, rings_iff]
  show (t + k) % a.1 = (a.2 + k) % a.1 ↔ _
  rw [add_mod_cancel, Nat.mod_eq_of_lt h]
theorem gA_mv {r : List A} {k i : Nat} (h : i < r.length) : gA (r.map (mv k)) i = mv k (gA r i) := by
  rw [gA_lt (by rw [List.length_map]; exact h), gA_lt h, List.getElem_map]
theorem heard_mv {r : List A} {k t : Nat} (h : ∀ a ∈ r, okA a) : heard (r.map (mv k)) (t + k) = heard r t := by
  refine sorted_ext (heard_sorted _ _) (heard_sorted _ _) fun i => ?_
  rw [heard_mem, heard_mem, List.length_map]
  constructor
  · rintro ⟨h1, h2⟩; rw [gA_mv h1, rings_mv (h _ (gA_mem h1)).2.2] at h2; exact ⟨h1, h2⟩
  · rintro ⟨h1, h2⟩; rw [← rings_mv (k := k) (h _ (gA_mem h1)).2.2] at h2; exact ⟨h1, by rw [gA_mv h1]; exact h2⟩
theorem cyc_mv {r : List A} {k : Nat} : cyc (r.map (mv k)) = cyc r := by rw [cyc, cyc, List.foldl_map]; rfl
theorem meets_ex_t {a b : A} (ha : okA a) (hb : okA b) (h : meets a b = true) : ∃ t, ringsAt a t = true ∧ ringsAt b t = true := by
  obtain ⟨j, -, hj⟩ := meets_ex hb.b ha.2.2 h
  exact ⟨_, ring_at j ha.2.2, hj⟩
theorem meets_mv {a b : A} {k : Nat} (ha : okA a) (hb : okA b) : meets (mv k a) (mv k b) = meets a b := by
  rw [Bool.eq_iff_iff]
  constructor
  · intro h
    obtain ⟨t, h1, h2⟩ := meets_ex_t (okA_mv ha) (okA_mv hb) h
    have e : t + k * (a.1 * b.1) = (t + k * (a.1 * b.1 - 1)) + k := by
      have : 1 ≤ a.1 * b.1 := Nat.mul_pos ha.1 hb.1
      obtain ⟨m, hm⟩ : ∃ m, a.1 * b.1 = m + 1 := ⟨a.1 * b.1 - 1, by omega⟩
      rw [hm, Nat.mul_add, Nat.add_sub_cancel]
      omega
    refine meets_of (t := t + k * (a.1 * b.1 - 1)) ?_ ?_
    · rw [← rings_mv (k := k) ha.2.2, ← e, mod_shift (a := mv k a) (by exact ⟨k * b.1, by show _ = a.1 * _; rw [Nat.mul_left_comm]⟩)]; exact h1
    · rw [← rings_mv (k := k) hb.2.2, ← e, mod_shift (a := mv k b) (by exact ⟨k * a.1, by show _ = b.1 * _; rw [Nat.mul_comm a.1 b.1, Nat.mul_left_comm]⟩)]; exact h2
  · intro h
    obtain ⟨t, h1, h2⟩ := meets_ex_t ha hb h
    exact meets_of (t := t + k) (by rw [rings_mv ha.2.2]; exact h1) (by rw [rings_mv hb.2.2]; exact h2)
theorem mgr_congr {r r' : List A} (hl : r'.length = r.length) (h : ∀ i j, i < r.length → j < r.length → meets (gA r' i) (gA r' j) = meets (gA r i) (gA r j)) : mgr r' = mgr r := by
  rw [mgr, mgr, hl]
  refine List.filter_congr fun g hg => ?_
  obtain ⟨-, -, h3⟩ := grp_mem.mp hg
  have e : ∀ r : List A, (apartOf (pickR r g)).isNone = true ↔ g.Pairwise fun i j => meets (gA r i) (gA r j) = true := fun r => by
    rw [Option.isNone_iff_eq_none, apart_none, pickR, List.pairwise_map]
  rw [Bool.eq_iff_iff, e, e]
  constructor
  · exact fun q => q.imp_of_mem fun hi hj q => by rw [← h _ _ (h3 _ hi) (h3 _ hj)]; exact q
  · exact fun q => q.imp_of_mem fun hi hj q => by rw [h _ _ (h3 _ hi) (h3 _ hj)]; exact q
theorem mgr_mv {r : List A} {k : Nat} (h : ∀ a ∈ r, okA a) : mgr (r.map (mv k)) = mgr r :=
  mgr_congr (by rw [List.length_map]) fun i j hi hj => by rw [gA_mv hi, gA_mv hj, meets_mv (h _ (gA_mem hi)) (h _ (gA_mem hj))]
theorem bigR_mv {r : List A} {k : Nat} (h : ∀ a ∈ r, okA a) : bigR (r.map (mv k)) = bigR r := by
  rw [bigR, bigR, crowd, crowd, mgr_mv h]
/-- a count over a period is the same from any start -/
theorem count_shift (P : Nat → Nat) (L k : Nat) (hP : ∀ t, P (t + L) = P t) : ∀ s, ((List.range L).map fun t => P (t + s)).count k = ((List.range L).map P).count k
  | 0 => rfl
  | s + 1 => by
    have ih := count_shift P L k hP s
    have e1 : ((List.range (L + 1)).map fun t => P (t + s)).count k = ((List.range L).map fun t => P (t + s)).count k + if P s = k then 1 else 0 := by
      rw [List.range_succ, List.map_append, List.count_append]
      congr 1
      have e : P (L + s) = P s := by rw [Nat.add_comm, hP]
      simp [List.count_cons, e]
    have e2 : ((List.range (L + 1)).map fun t => P (t + s)).count k = ((List.range L).map fun t => P (t + (s + 1))).count k + if P s = k then 1 else 0 := by
      rw [List.range_succ_eq_map, List.map_cons, List.map_map, List.count_cons]
      congr 1
      · congr 1
        apply List.map_congr_left
        intro t _
        simp only [Function.comp]
        congr 1
        omega
      · simp
    rw [← ih]
    omega
theorem cnt_mv {r : List A} {k : Nat} (h : ∀ a ∈ r, okA a) (m : Nat) : cnt (r.map (mv k)) (cyc r) m = cnt r (cyc r) m := by
  rw [cnt, ← count_shift (fun t => (heard (r.map (mv k)) t).length) (cyc r) m (fun t => by
    show (heard (r.map (mv k)) (t + cyc r)).length = _
    rw [heard_shift fun a ha => by rw [← cyc_mv (k := k)]; exact dvd_cyc ha]) k, cnt]
  simp only [heard_mv h]
theorem cntD_mv {r : List A} {k : Nat} (h : ∀ a ∈ r, okA a) : cntD (r.map (mv k)) (cyc r) = cntD r (cyc r) := by
  rw [cntD, cntD, List.length_map]
  exact List.map_congr_left fun m _ => cnt_mv h m
theorem sum_ind (f w : Nat → Nat) (x : Nat) : ∀ m, ((List.range m).map fun k => f k + if x = k then w k else 0).sum = ((List.range m).map f).sum + if x < m then w x else 0
  | 0 => by simp
  | m + 1 => by
    rw [List.range_succ, List.map_append, List.sum_append, sum_ind f w x m, List.map_append, List.sum_append]
    simp only [List.map_cons, List.map_nil, List.sum_cons, List.sum_nil]
    by_cases h1 : x < m
    · rw [if_pos h1, if_neg (show ¬ x = m by omega), if_pos (show x < m + 1 by omega)]; omega
    · by_cases h2 : x = m
      · subst h2; rw [if_neg h1, if_pos rfl, if_pos (by omega)]; omega
      · rw [if_neg h1, if_neg h2, if_neg (by omega)]; omega
theorem cnt_sum (r : List A) : ∀ L, (cntD r L).sum = L
  | 0 => by
    have : ∀ m, ((List.range m).map fun k => cnt r 0 k).sum = 0 := fun m => by
      induction m with
      | zero => rfl
      | succ m ih => rw [List.range_succ, List.map_append, List.sum_append, ih]; rfl
    exact this _
  | L + 1 => by
    have ih := cnt_sum r L
    have hl := heard_len_le r L
    rw [cntD] at ih ⊢
    have := sum_ind (fun k => cnt r L k) (fun _ => 1) (heard r L).length (r.length + 1)
    simp only [cnt_succ]
    rw [this, ih, if_pos (by omega)]
theorem cnt_wsum (r : List A) : ∀ L, ((List.range (r.length + 1)).map fun k => k * cnt r L k).sum = ((List.range L).map fun t => (heard r t).length).sum
  | 0 => by
    have : ∀ m, ((List.range m).map fun k => k * cnt r 0 k).sum = 0 := fun m => by
      induction m with
      | zero => rfl
      | succ m ih => rw [List.range_succ, List.map_append, List.sum_append, ih]; rfl
    exact this _
  | L + 1 => by
    have ih := cnt_wsum r L
    have hl := heard_len_le r L
    have := sum_ind (fun k => k * cnt r L k) (fun k => k) (heard r L).length (r.length + 1)
    have e : (fun k => k * cnt r (L + 1) k) = fun k => k * cnt r L k + if (heard r L).length = k then k else 0 := by
      funext k
      rw [cnt_succ, Nat.mul_add]
      congr 1
      split <;> simp
    rw [e, this, ih, if_pos (by omega), List.range_succ, List.map_append, List.sum_append]
    simp
theorem count_cast (k : Nat) : ∀ l : List Nat, (l.map fun x : Nat => (x : Int)).count (k : Int) = l.count k
  | [] => rfl
  | x :: l => by
    rw [List.map_cons, List.count_cons, List.count_cons, count_cast k l]
    congr 1
    have : ((x : Int) == (k : Int)) = (x == k) := by rw [Bool.eq_iff_iff, beq_iff_eq, beq_iff_eq]; exact Int.ofNat_inj
    rw [this]
theorem cnt_pos {r : List A} {L k : Nat} : 0 < cnt r L k ↔ ∃ t, t < L ∧ (heard r t).length = k := by
  rw [cnt, List.count_pos_iff, List.mem_map]
  exact ⟨fun ⟨t, h1, h2⟩ => ⟨t, List.mem_range.mp h1, h2⟩, fun ⟨t, h1, h2⟩ => ⟨t, List.mem_range.mpr h1, h2⟩⟩
/-! the first items -/
theorem cut_take {α : Type} (xs : List α) (k : Nat) : D.cutL xs none (some (k : Int)) = xs.take k := by
  have e1 : D.cutAt xs.length 0 none = 0 := rfl
  have e2 : D.cutAt xs.length xs.length (some (k : Int)) = min xs.length k := by
    show (if (0 : Int) ≤ k then min xs.length (k : Int).toNat else ((xs.length : Int) + (k : Int)).toNat) = _
    rw [if_pos (by omega), Int.toNat_natCast]
  rw [D.cutL, e1, e2, List.drop_zero, Nat.sub_zero]
  by_cases h : xs.length ≤ k
  · rw [Nat.min_eq_left h, List.take_length, List.take_of_length_le h]
  · rw [Nat.min_eq_right (by omega)]
theorem cut_R {r : List A} {k : Nat} : D.cut none (some (k : Int)) (dR r) = .ok (dR (r.take k)) := by
  show R.ok (D.tup (D.cutL (r.map dA) none (some (k : Int)))) = _
  rw [cut_take, ← List.map_take]
  rfl
theorem okR_take {r : List A} {k : Nat} (h : okR r) : okR (r.take k) := ⟨by rw [List.length_take]; have := h.1; omega, fun a ha => h.2 a (List.mem_of_mem_take ha)⟩
theorem perB_le : ∀ p ∈ periodsB, p ≤ 12 := by decide
theorem lcm_le {a b : Nat} (ha : 0 < a) (hb : 0 < b) : Nat.lcm a b ≤ a * b := Nat.le_of_dvd (Nat.mul_pos ha hb) (Nat.lcm_dvd_mul a b)
theorem cyc_two {r : List A} (h : ∀ a ∈ r, okA a) (hp : ∀ a ∈ r, a.1 ∈ periodsB) : cyc (r.take 2) ≤ 144 := by
  match r, h, hp with
  | [], _, _ => decide
  | [a], h, hp =>
    have := perB_le _ (hp a (by simp))
    show Nat.lcm 1 a.1 ≤ 144
    rw [Nat.lcm_one_left]; omega
  | a :: b :: r, h, hp =>
    have h1 := perB_le _ (hp a (by simp))
    have h2 := perB_le _ (hp b (by simp))
    show Nat.lcm (Nat.lcm 1 a.1) b.1 ≤ 144
    rw [Nat.lcm_one_left]
    have := lcm_le (h a (by simp)).1 (h b (by simp)).1
    have := Nat.mul_le_mul h1 h2
    omega
end RT

namespace RT
/-! S9: silence; groups that ring together, counted -/
theorem find_silent_R {r : List A} (h : okR r) (hc : cyc r ≤ 5000) : PP.d_find_silent [dR r] = .ok (match (List.range (cyc r)).find? fun t => (heard r t).isEmpty with
    | some t => .int (t : Nat)
    | none => .non) := by
  have key := loopF_ret (g := gN 1) (b := PP.b_find_silent_1) (fun k : Nat => .int (k : Nat)) (fun ρ => ∃ x, ρ = [some (dR r), x]) (fun t => if (heard r t).isEmpty then some (D.int (t : Nat)) else none) (List.range (cyc r)) [some (dR r), none] ⟨_, rfl⟩ (by
    rintro t _ ρ ⟨x, rfl⟩
    refine ⟨_, rfl, ?_⟩
    have he : D.eq (dN (heard r t)) (.lst []) = .ok (.bl (heard r t).isEmpty) := by rw [dN, eq_nil okD_dN]; simp
    cases hh : (heard r t).isEmpty with
    | true =>
      show PP.b_find_silent_1 _ = .rt _
      rw [hh] at he
      simp only [PP.b_find_silent_1, st_If, tv_V, ev_2, ev_F, av_C, av_N, v_S, v_0, List.set_cons_succ, List.set_cons_zero, R.bind_ok, find_ringing_R h, ev_Lst, List.length_nil, lim0, if_true, he, asB_b, wr_o, st_Ret]
    | false =>
      rw [hh] at he
      refine ⟨[some (dR r), some (.int (t : Nat))], ?_, ⟨_, rfl⟩⟩
      simp only [PP.b_find_silent_1, st_If, tv_V, ev_2, ev_F, av_C, av_N, v_S, v_0, List.set_cons_succ, List.set_cons_zero, R.bind_ok, find_ringing_R h, ev_Lst, List.length_nil, lim0, if_true, he, asB_b, wr_o, Bool.false_eq_true, if_false, st_Nx])
  have hf : (List.range (cyc r)).findSome? (fun t => if (heard r t).isEmpty then some (D.int (t : Nat)) else none) = ((List.range (cyc r)).find? fun t => (heard r t).isEmpty).map fun t => D.int (t : Nat) := by
    generalize List.range (cyc r) = l
    induction l with
    | nil => rfl
    | cons t l ih =>
      rw [List.findSome?_cons, List.find?_cons]
      cases hh : (heard r t).isEmpty with
      | true => rfl
      | false => exact ih
  rw [hf] at key
  simp only [PP.d_find_silent, PP.s_find_silent, body_eq, List.map_cons, List.map_nil, List.replicate, List.cons_append, List.nil_append, st_Seq, st_For, iv_A, av_C, av_N, ev_F, v_0, R.bind_ok, find_cycle_R h.2, rngA_1]
  rw [rng_nat (lim2 (by omega))]
  simp only [R.bind_ok, wr_o]
  cases hx : (List.range (cyc r)).find? fun t => (heard r t).isEmpty with
  | some t =>
    rw [hx] at key
    have key : loopF _ _ _ _ = .rt (.int (t : Nat)) := key
    rw [key]
    rfl
  | none =>
    rw [hx] at key
    obtain ⟨ρ2, e1, -⟩ : ∃ ρ2, loopF _ _ _ _ = .nx ρ2 ∧ _ := key
    rw [e1]
    rfl
def silentD (r : List A) : D := match (List.range (cyc r)).find? fun t => (heard r t).isEmpty with
    | some t => .int (t : Nat)
    | none => .non
theorem first_silent_R {r : List A} (h : okR r) (hc : cyc r ≤ 5000) : PP.d_first_silent [dR r] = .ok (silentD r) := by
  have := find_silent_R h hc
  have this : PP.d_find_silent [dR r] = .ok (silentD r) := this
  simp only [PP.d_first_silent, PP.s_first_silent, body_eq, List.map_cons, List.map_nil, List.replicate, List.append_nil, st_Seq, st_Drop, ev_F, av_C, av_N, v_0, R.bind_ok, check_cycle_R h hc, wr_o, at_n, st_Ret, this]
theorem is_never_silent_R {r : List A} (h : okR r) (hc : cyc r ≤ 5000) : PP.d_is_never_silent [dR r] = .ok (.bl (silentD r).isNone) := by
  have := find_silent_R h hc
  have this : PP.d_find_silent [dR r] = .ok (silentD r) := this
  simp only [PP.d_is_never_silent, PP.s_is_never_silent, body_eq, List.map_cons, List.map_nil, List.replicate, List.append_nil, st_Seq, st_Drop, ev_F, av_C, av_N, v_0, R.bind_ok, check_cycle_R h hc, wr_o, at_n, st_Ret, ev_None, this]
theorem silent_iff (r : List A) : (silentD r).isNone = true ↔ ∀ t < cyc r, heard r t ≠ [] := by
  unfold silentD
  cases hx : (List.range (cyc r)).find? fun t => (heard r t).isEmpty with
  | some t =>
    have h1 := List.find?_some hx
    have h2 := List.mem_of_find?_eq_some hx
    simp only [D.isNone, Bool.false_eq_true, false_iff]
    intro h
    exact h t (List.mem_range.mp h2) (by simpa using h1)
  | none =>
    rw [List.find?_eq_none] at hx
    simp only [D.isNone, true_iff]
    intro t ht h
    exact hx t (List.mem_range.mpr ht) (by rw [h]; rfl)
theorem all_meet_R {r : List A} (h : okR r) : PP.d_all_meet [dR r] = .ok (.bl (apartOf r).isNone) := by
  have := find_apart_R (r := r) h.b (fun a ha => by have := (h.2 a ha).2.1; omega) (by have := h.1; omega)
  simp only [PP.d_all_meet, PP.s_all_meet, body_eq, List.map_cons, List.map_nil, List.replicate, List.append_nil, st_Seq, st_Drop, ev_F, av_C, av_N, v_0, R.bind_ok, check_row_R h, wr_o, at_n, st_Ret, ev_None, this, isNone_apart]
/-! counting -/
def allAt (r : List A) (g : List Nat) (t : Nat) : Bool := g.all fun k => ringsAt (gA r k) t
def nAt (r : List A) (L : Nat) (g : List Nat) : Nat := (List.range L).countP (allAt r g)
theorem nAt_succ (r : List A) (L : Nat) (g : List Nat) : nAt r (L + 1) g = nAt r L g + if allAt r g L then 1 else 0 := by
  rw [nAt, List.range_succ, List.countP_append, nAt]
  congr 1
  simp [List.countP_cons]
theorem ringsBefore_succB {a : A} (h : okB a) (e : Nat) : ringsBefore a (e + 1) = ringsBefore a e + if ringsAt a e then 1 else 0 := by
  obtain ⟨h1, h3⟩ := h
  have e1 : e + 1 + (a.1 - 1 - a.2) = e + (a.1 - 1 - a.2) + 1 := by omega
  rw [ringsBefore, ringsBefore, e1, Nat.succ_div]
  congr 1
  have : (a.1 ∣ e + (a.1 - 1 - a.2) + 1) ↔ ringsAt a e = true := by
    have e2 : e + (a.1 - 1 - a.2) + 1 = e + (a.1 - a.2) := by omega
    rw [e2, ringsAt, beq_iff_eq, Nat.dvd_iff_mod_eq_zero]
    have hlt := Nat.mod_lt e h1
    have e3 : (e + (a.1 - a.2)) % a.1 = (e % a.1 + (a.1 - a.2)) % a.1 := by rw [Nat.add_mod, Nat.add_mod (e % a.1)]; simp
    rw [e3]
    by_cases hc : e % a.1 < a.2
    · rw [Nat.mod_eq_of_lt (by omega)]; omega
    · rw [show e % a.1 + (a.1 - a.2) = (e % a.1 - a.2) + a.1 by omega, Nat.add_mod_right, Nat.mod_eq_of_lt (by omega)]; omega
  simp only [this]
theorem countP_rings {a : A} (h : okB a) : ∀ e, (List.range e).countP (ringsAt a) = ringsBefore a e
  | 0 => (Nat.div_eq_of_lt (by have := h.2; have := h.1; omega)).symm
  | e + 1 => by
    rw [List.range_succ, List.countP_append, countP_rings h e, ringsBefore_succB h e]
    congr 1
    simp [List.countP_cons]
theorem before_dvd {a : A} (h : okB a) {L : Nat} (hd : a.1 ∣ L) : ringsBefore a L = L / a.1 := by
  obtain ⟨m, rfl⟩ := hd
  have hp : 0 < a.1 := h.1
  rw [ringsBefore, Nat.mul_add_div hp, Nat.mul_div_cancel_left _ hp, Nat.div_eq_of_lt (by have := h.2; omega), Nat.add_zero]
theorem pickR_cyc {r : List A} {g : List Nat} (h : ∀ a ∈ r, okA a) (hg : ∀ k ∈ g, k < r.length) : cyc (pickR r g) ∣ cyc r := by
  have : ∀ (l : List A) (c : Nat), c ∣ cyc r → (∀ a ∈ l, a ∈ r) → l.foldl (fun c a => Nat.lcm c a.1) c ∣ cyc r := by
    intro l
    induction l with
    | nil => exact fun c hc _ => hc
    | cons a l ih => exact fun c hc hl => ih _ (Nat.lcm_dvd hc (dvd_cyc (hl a (by simp)))) fun b hb => hl b (by simp [hb])
  exact this _ _ (Nat.one_dvd _) (pick_mem hg)
theorem allAt_pick (r : List A) (g : List Nat) (t : Nat) : allAt r g t = true ↔ ∀ a ∈ pickR r g, ringsAt a t = true := by
  rw [allAt, List.all_eq_true]
  exact ⟨fun h a ha => by obtain ⟨k, hk, rfl⟩ := List.mem_map.mp ha; exact h k hk, fun h k hk => h _ (List.mem_map.mpr ⟨k, hk, rfl⟩)⟩
theorem nAt_meet {r : List A} {g : List Nat} (h : ∀ a ∈ r, okA a) (hg : ∀ k ∈ g, k < r.length) (hm : (apartOf (pickR r g)).isNone = true) : nAt r (cyc r) g = cyc r / cyc (pickR r g) := by
  have hp := apart_none.mp (Option.isNone_iff_eq_none.mp hm)
  obtain ⟨t0, h1, h2⟩ := row_join (r := pickR r g) (fun a ha => h a (pick_mem hg a ha)) hp
  have hB : okB (cyc (pickR r g), t0) := ⟨cyc_pos fun a ha => h a (pick_mem hg a ha), h1⟩
  rw [nAt, ← before_dvd hB (pickR_cyc h hg), ← countP_rings hB]
  congr 1
  funext t
  rw [Bool.eq_iff_iff, allAt_pick, h2]
theorem nAt_apart {r : List A} {g : List Nat} {L : Nat} (hm : (apartOf (pickR r g)).isNone = false) : nAt r L g = 0 := by
  rw [nAt, List.countP_eq_zero]
  intro t _ ht
  have := (allAt_pick r g t).mp ht
  have hp : (pickR r g).Pairwise (fun a b => meets a b = true) := by
    rw [List.pairwise_iff_getElem]
    intro i j hi hj _
    exact meets_of (this _ (List.getElem_mem hi)) (this _ (List.getElem_mem hj))
  rw [apart_none.mpr hp] at hm
  cases hm
theorem heard_filter (r : List A) (t : Nat) : heard r t = (List.range r.length).filter fun i => ringsAt (gA r i) t := by
  rw [heard]
  refine List.filter_congr fun i hi => ?_
  have hi' := List.mem_range.mp hi
  rw [List.getElem?_eq_getElem hi', gA_lt hi']
theorem ind_sum (b : Nat → Bool) : ∀ n, ((raw n).map fun g => if g.all b then 1 else 0).sum = 2 ^ ((List.range n).filter b).length
  | 0 => rfl
  | n + 1 => by
    have ih := ind_sum b n
    rw [raw, List.map_append, List.sum_append, ih, List.map_map, List.range_succ, List.filter_append]
    cases hb : b n with
    | true =>
      have : ((fun g : List Nat => if g.all b then 1 else 0) ∘ fun g => g ++ [n]) = fun g : List Nat => if g.all b then 1 else 0 := by
        funext g; simp only [Function.comp, List.all_append, List.all_cons, List.all_nil, hb, Bool.and_true]
      rw [this, ih]
      simp [hb, Nat.pow_succ]
      omega
    | false =>
      have : ((fun g : List Nat => if g.all b then 1 else 0) ∘ fun g => g ++ [n]) = fun _ => 0 := by
        funext g; simp only [Function.comp, List.all_append, List.all_cons, List.all_nil, hb, Bool.and_true, Bool.and_false, Bool.false_eq_true, if_false]
      have z : ∀ l : List (List Nat), (l.map fun _ => 0).sum = 0 := fun l => by induction l with
        | nil => rfl
        | cons x l ih => simp [ih]
      rw [this, z]
      simp [hb]
def sgn (g : List Nat) : Int := if g.length % 2 = 0 then 1 else -1
theorem sgn_snoc (g : List Nat) (n : Nat) : sgn (g ++ [n]) = - sgn g := by
  unfold sgn
  rw [List.length_append]
  simp only [List.length_cons, List.length_nil]
  split <;> split <;> omega
theorem sgn_sum (b : Nat → Bool) : ∀ n, ((raw n).map fun g => sgn g * (if g.all b then 1 else 0 : Int)).sum = if ((List.range n).filter b).length = 0 then 1 else 0
  | 0 => rfl
  | n + 1 => by
    have ih := sgn_sum b n
    rw [raw, List.map_append, List.sum_append, ih, List.map_map, List.range_succ, List.filter_append]
    cases hb : b n with
    | true =>
      have : ((fun g : List Nat => sgn g * (if g.all b then 1 else 0 : Int)) ∘ fun g => g ++ [n]) = fun g : List Nat => -(sgn g * (if g.all b then 1 else 0 : Int)) := by
        funext g; simp only [Function.comp, List.all_append, List.all_cons, List.all_nil, hb, Bool.and_true, sgn_snoc, Int.neg_mul]
      have z : ∀ l : List (List Nat), ((l.map fun g => -(sgn g * (if g.all b then 1 else 0 : Int))).sum) = -((l.map fun g => sgn g * (if g.all b then 1 else 0 : Int)).sum) := fun l => by induction l with
        | nil => rfl
        | cons x l ih => simp only [List.map_cons, List.sum_cons, ih]; omega
      rw [this, z, ih]
      simp [hb]
      omega
    | false =>
      have : ((fun g : List Nat => sgn g * (if g.all b then 1 else 0 : Int)) ∘ fun g => g ++ [n]) = fun _ => (0 : Int) := by
        funext g; simp only [Function.comp, List.all_append, List.all_cons, List.all_nil, hb, Bool.and_true, Bool.and_false, Bool.false_eq_true, if_false, Int.mul_zero]
      have z : ∀ l : List (List Nat), (l.map fun _ => (0 : Int)).sum = 0 := fun l => by induction l with
        | nil => rfl
        | cons x l ih => simp [ih]
      rw [this, z]
      simp [hb]
theorem sum_add {α : Type} (f g : α → Nat) : ∀ l : List α, (l.map fun x => f x + g x).sum = (l.map f).sum + (l.map g).sum
  | [] => rfl
  | x :: l => by simp only [List.map_cons, List.sum_cons, sum_add f g l]; omega
theorem sum_addI {α : Type} (f g : α → Int) : ∀ l : List α, (l.map fun x => f x + g x).sum = (l.map f).sum + (l.map g).sum
  | [] => rfl
  | x :: l => by simp only [List.map_cons, List.sum_cons, sum_addI f g l]; omega
theorem pairs_sum (r : List A) : ∀ L, ((raw r.length).map (nAt r L)).sum = ((List.range L).map fun t => 2 ^ (heard r t).length).sum
  | 0 => by
    have z : ∀ l : List (List Nat), (l.map (nAt r 0)).sum = 0 := fun l => by induction l with
      | nil => rfl
      | cons x l ih => rw [List.map_cons, List.sum_cons, ih]; rfl
    exact z _
  | L + 1 => by
    have e : (nAt r (L + 1)) = fun g => nAt r L g + if allAt r g L then 1 else 0 := by funext g; exact nAt_succ r L g
    rw [e, sum_add, pairs_sum r L, List.range_succ, List.map_append, List.sum_append]
    congr 1
    have := ind_sum (fun k => ringsAt (gA r k) L) r.length
    rw [← heard_filter] at this
    simpa [allAt] using this
theorem silent_sum (r : List A) : ∀ L, ((raw r.length).map fun g => sgn g * (nAt r L g : Nat)).sum = (cnt r L 0 : Nat)
  | 0 => by
    have z : ∀ l : List (List Nat), (l.map fun g => sgn g * (nAt r 0 g : Nat)).sum = 0 := fun l => by induction l with
      | nil => rfl
      | cons x l ih => rw [List.map_cons, List.sum_cons, ih]; simp [nAt]
    exact z _
  | L + 1 => by
    have e : (fun g => sgn g * (nAt r (L + 1) g : Nat)) = fun g => sgn g * (nAt r L g : Nat) + sgn g * (if allAt r g L then 1 else 0 : Int) := by
      funext g
      rw [nAt_succ, ← Int.mul_add]
      congr 1
      split <;> simp
    rw [e, sum_addI, silent_sum r L, cnt_succ]
    have := sgn_sum (fun k => ringsAt (gA r k) L) r.length
    rw [← heard_filter] at this
    have this : ((raw r.length).map fun g => sgn g * (if allAt r g L then 1 else 0 : Int)).sum = if (heard r L).length = 0 then 1 else 0 := this
    rw [this]
    split <;> simp
theorem cnt_gsum (w : Nat → Nat) (r : List A) : ∀ L, ((List.range (r.length + 1)).map fun k => w k * cnt r L k).sum = ((List.range L).map fun t => w (heard r t).length).sum
  | 0 => by
    have : ∀ m, ((List.range m).map fun k => w k * cnt r 0 k).sum = 0 := fun m => by
      induction m with
      | zero => rfl
      | succ m ih => rw [List.range_succ, List.map_append, List.sum_append, ih]; simp [cnt]
    exact this _
  | L + 1 => by
    have ih := cnt_gsum w r L
    have hl := heard_len_le r L
    have := sum_ind (fun k => w k * cnt r L k) w (heard r L).length (r.length + 1)
    have e : (fun k => w k * cnt r (L + 1) k) = fun k => w k * cnt r L k + if (heard r L).length = k then w k else 0 := by
      funext k
      rw [cnt_succ, Nat.mul_add]
      congr 1
      split <;> simp
    rw [e, this, ih, if_pos (by omega), List.range_succ, List.map_append, List.sum_append]
    simp
theorem cnt_le (r : List A) (L k : Nat) : cnt r L k ≤ L := by
  have := List.count_le_length (a := k) (l := (List.range L).map fun t => (heard r t).length)
  rw [List.length_map, List.length_range] at this
  exact this
theorem heard_sum_dvd {r : List A} (h : ∀ a ∈ r, okA a) : (r.map fun a => cyc r / a.1).sum = ((List.range (cyc r)).map fun t => (heard r t).length).sum := by
  rw [← countR_sum h, countR]
  congr 1
  exact List.map_congr_left fun a ha => (before_dvd (h a ha).b (dvd_cyc ha)).symm
end RT

namespace RT
/-! S10: joining -/
/-- all of them ring -/
def AllAt (r : List A) (t : Nat) : Prop := ∀ a ∈ r, ringsAt a t = true
/-- c is the joined alarm of r -/
structure Joins (r : List A) (c : A) : Prop where
  per : c.1 = cyc r
  lt : c.2 < c.1
  iff : ∀ t, ringsAt c t = true ↔ AllAt r t
theorem join_loop : ∀ (r : List A) (c : A) (x y : Option D), okB c → (∀ a ∈ r, okA a) → r.Pairwise (fun a b => meets a b = true) → (∀ a ∈ r, meets c a = true) →
    ∃ t0 z, loopF (gN 2) PP.b_find_joined_1 (r.map dA) [x, some (dA c), y] = .nx [x, some (dA (r.foldl (fun c a => Nat.lcm c a.1) c.1, t0)), z] ∧ t0 < r.foldl (fun c a => Nat.lcm c a.1) c.1 ∧
      ∀ t, ringsAt (r.foldl (fun c a => Nat.lcm c a.1) c.1, t0) t = true ↔ (ringsAt c t = true ∧ ∀ a ∈ r, ringsAt a t = true)
  | [], c, x, y, hc, _, _, _ => ⟨c.2, y, rfl, hc.2, fun t => ⟨fun h => ⟨h, by simp⟩, fun h => h.1⟩⟩
  | a :: r, c, x, y, hc, ha, hp, hm => by
    have oa := ha a (by simp)
    have hp' := List.pairwise_cons.mp hp
    obtain ⟨t1, ht, e⟩ := both_A hc oa.b oa.2.1 (hm a (by simp))
    have hlt := ht.lt hc oa.b
    have hc' : okB (Nat.lcm c.1 a.1, t1) := ⟨lcm_pos' hc oa.b, hlt⟩
    obtain ⟨t0, z, h0, h1, h2⟩ := join_loop r (Nat.lcm c.1 a.1, t1) x (some (dA a)) hc' (fun b hb => ha b (by simp [hb])) hp'.2 fun b hb => joined_meets (by have := (ha b (by simp [hb])).1; omega) ht.1 ht.2.1 (hm b (by simp [hb])) (hp'.1 b hb)
    refine ⟨t0, z, ?_, h1, fun t => ?_⟩
    · rw [List.map_cons, loopF, gv_N]
      simp only [List.set_cons_succ, List.set_cons_zero, PP.b_find_joined_1, st_Set, ev_F, av_C, av_N, v_S, v_0, R.bind_ok, e, wr_o, at_n]
      exact h0
    · rw [List.foldl_cons]
      rw [h2 t, ← ht.iff hc oa.b t]
      constructor
      · rintro ⟨⟨g1, g2⟩, g3⟩
        exact ⟨g1, fun b hb => (List.mem_cons.mp hb).elim (fun e => by rw [e]; exact g2) (fun hb => g3 b hb)⟩
      · rintro ⟨g1, g2⟩
        exact ⟨⟨g1, g2 a (by simp)⟩, fun b hb => g2 b (by simp [hb])⟩
theorem joined_some {r : List A} (h : okR r) (hp : r.Pairwise (fun a b => meets a b = true)) : ∃ c, Joins r c ∧ PP.d_find_joined [dR r] = .ok (dA c) := by
  obtain ⟨t0, z, e, h1, h2⟩ := join_loop r (1, 0) (some (dR r)) none ⟨by decide, by decide⟩ h.2 hp fun a _ => meets_one a
  refine ⟨(cyc r, t0), ⟨rfl, h1, fun t => (h2 t).trans ⟨fun q => q.2, fun q => ⟨rings_one t, q⟩⟩⟩, ?_⟩
  have hap := find_apart_R (r := r) h.b (fun a ha => by have := (h.2 a ha).2.1; omega) (by have := h.1; omega)
  rw [apart_none.mpr hp] at hap
  have h10 : (.tup [.int 1, .int 0] : D) = dA (1, 0) := rfl
  have hit : D.items (dR r) = .ok (r.map dA) := rfl
  have hn : D.isNone (apartD none) = true := rfl
  simp only [PP.d_find_joined, PP.s_find_joined, body_eq, List.map_cons, List.map_nil, List.replicate, List.cons_append, List.nil_append, st_Seq, st_If, tv_V, ev_NotNone, ev_F, av_C, av_N, v_0, R.bind_ok, hap, hn, Bool.not_true, asB_b, wr_o, Bool.false_eq_true, if_false, st_Nx, at_n, st_Set, ev_Tup, ev_C, List.length_cons, List.length_nil, Nat.zero_add, Nat.reduceAdd, lim2', if_true, List.set_cons_succ, List.set_cons_zero, st_For, iv_Items, hit, h10, e, st_Ret, v_S]
  rfl
theorem joined_none {r : List A} (h : okR r) (hp : ¬ r.Pairwise (fun a b => meets a b = true)) : PP.d_find_joined [dR r] = .ok .non := by
  have hap := find_apart_R (r := r) h.b (fun a ha => by have := (h.2 a ha).2.1; omega) (by have := h.1; omega)
  have hn : D.isNone (apartD (apartOf r)) = false := by
    rw [isNone_apart]
    cases ha : apartOf r with
    | none => exact absurd (apart_none.mp ha) hp
    | some p => rfl
  simp only [PP.d_find_joined, PP.s_find_joined, body_eq, List.map_cons, List.map_nil, List.replicate, List.cons_append, List.nil_append, st_Seq, st_If, tv_V, ev_NotNone, ev_F, av_C, av_N, v_0, R.bind_ok, hap, hn, Bool.not_false, asB_b, wr_o, if_true, st_Ret, ev_C, at_r]
theorem d_joined_some {r : List A} (h : okR r) (hp : r.Pairwise (fun a b => meets a b = true)) : ∃ c, Joins r c ∧ PP.d_joined [dR r] = .ok (dA c) ∧ PP.d_first_together [dR r] = .ok (.int (c.2 : Nat)) := by
  obtain ⟨c, hc, e⟩ := joined_some h hp
  have hn : D.isNone (dA c) = false := rfl
  have i1 : D.idx (dA c) (.int 1) = .ok (.int (c.2 : Nat)) := rfl
  refine ⟨c, hc, ?_, ?_⟩
  · simp only [PP.d_joined, PP.s_joined, body_eq, List.map_cons, List.map_nil, List.replicate, List.append_nil, st_Seq, st_Drop, ev_F, av_C, av_N, v_0, R.bind_ok, check_row_R h, wr_o, at_n, st_Ret, e]
  · simp only [PP.d_first_together, PP.s_first_together, body_eq, List.map_cons, List.map_nil, List.replicate, List.cons_append, List.nil_append, st_Seq, st_Drop, ev_F, av_C, av_N, v_0, v_S, R.bind_ok, check_row_R h, wr_o, at_n, st_Set, e, List.set_cons_succ, List.set_cons_zero, st_Ret, ev_If, tv_V, ev_NotNone, hn, Bool.not_false, asB_b, if_true, ev_2, ev_C, i1]
theorem d_joined_none {r : List A} (h : okR r) (hp : ¬ r.Pairwise (fun a b => meets a b = true)) : PP.d_joined [dR r] = .ok .non ∧ PP.d_first_together [dR r] = .ok .non := by
  have e := joined_none h hp
  refine ⟨?_, ?_⟩
  · simp only [PP.d_joined, PP.s_joined, body_eq, List.map_cons, List.map_nil, List.replicate, List.append_nil, st_Seq, st_Drop, ev_F, av_C, av_N, v_0, R.bind_ok, check_row_R h, wr_o, at_n, st_Ret, e]
  · simp only [PP.d_first_together, PP.s_first_together, body_eq, List.map_cons, List.map_nil, List.replicate, List.cons_append, List.nil_append, st_Seq, st_Drop, ev_F, av_C, av_N, v_0, v_S, R.bind_ok, check_row_R h, wr_o, at_n, st_Set, e, List.set_cons_succ, List.set_cons_zero, st_Ret, ev_If, tv_V, ev_NotNone, isNone_n, Bool.not_true, asB_b, Bool.false_eq_true, if_false, ev_C]
/-- they meet pair by pair if they ring together -/
theorem pairwise_at {r : List A} {t : Nat} (h : AllAt r t) : r.Pairwise (fun a b => meets a b = true) := by
  rw [List.pairwise_iff_getElem]
  intro i j hi hj _
  exact meets_of (h _ (List.getElem_mem hi)) (h _ (List.getElem_mem hj))
theorem cyc_dvd {r : List A} {m : Nat} : cyc r ∣ m ↔ ∀ a ∈ r, a.1 ∣ m := by
  constructor
  · exact fun h a ha => Nat.dvd_trans (dvd_cyc ha) h
  · intro h
    have : ∀ (l : List A) (c : Nat), c ∣ m → (∀ a ∈ l, a.1 ∣ m) → l.foldl (fun c a => Nat.lcm c a.1) c ∣ m := by
      intro l
      induction l with
      | nil => exact fun c hc _ => hc
      | cons a l ih => exact fun c hc hl => ih _ (Nat.lcm_dvd hc (hl a (by simp))) fun b hb => hl b (by simp [hb])
    exact this r 1 (Nat.one_dvd _) h
theorem Joins.pos {r : List A} {c : A} (h : Joins r c) : 0 < c.1 := by have := h.lt; omega
theorem Joins.at {r : List A} {c : A} (h : Joins r c) : AllAt r c.2 := (h.iff _).mp (by rw [rings_iff]; exact Nat.mod_eq_of_lt h.lt)
theorem Joins.same {r r' : List A} {c c' : A} (h : Joins r c) (h' : Joins r' c') (hc : cyc r = cyc r') (ht : ∀ t, AllAt r t ↔ AllAt r' t) : c = c' := by
  have e1 : c.1 = c'.1 := by rw [h.per, h'.per, hc]
  have := (h'.iff c.2).mpr ((ht _).mp h.at)
  rw [rings_iff, ← e1, Nat.mod_eq_of_lt h.lt] at this
  exact Prod.ext e1 this
theorem cyc_same {r r' : List A} (h : ∀ a, a ∈ r ↔ a ∈ r') : cyc r = cyc r' :=
  Nat.dvd_antisymm (cyc_dvd.mpr fun a ha => dvd_cyc ((h a).mp ha)) (cyc_dvd.mpr fun a ha => dvd_cyc ((h a).mpr ha))
theorem at_same {r r' : List A} (h : ∀ a, a ∈ r ↔ a ∈ r') (t : Nat) : AllAt r t ↔ AllAt r' t := ⟨fun q a ha => q a ((h a).mpr ha), fun q a ha => q a ((h a).mp ha)⟩
/-- whether a pair is an alarm -/
def isAl (c : A) : Bool := decide ((1 : Int) ≤ c.1) && decide ((c.1 : Int) ≤ 60) && (decide ((0 : Int) ≤ c.2) && decide ((c.2 : Int) ≤ c.1 - 1))
theorem is_alarm_c (c : A) : PP.d_is_alarm [dA c] = .ok (.bl (isAl c)) := is_alarm_ok
theorem isAl_ok {c : A} (h : isAl c = true) : okA c := by
  simp only [isAl, Bool.and_eq_true, decide_eq_true_eq] at h
  exact ⟨by omega, by omega, by omega⟩
@[simp] theorem eq_bl {a b : Bool} : D.eq (.bl a) (.bl b) = .ok (.bl (a == b)) := by rw [eq_ok okD_bl okD_bl]; rfl
@[simp] theorem ne_bl {a b : Bool} : D.ne (.bl a) (.bl b) = .ok (.bl (!(a == b))) := by rw [ne_ok okD_bl okD_bl]; rfl
theorem okD_dA (c : A) : okD (dA c) := okD_of 1 (okN_tup fun x hx => by
  rcases List.mem_cons.mp hx with e | hx
  · rw [e]; exact okN_int
  · rw [List.mem_singleton.mp hx]; exact okN_int)
theorem okR_two {a b : A} (ha : okA a) (hb : okA b) : okR [a, b] := ⟨by simp, fun c hc => by
  rcases List.mem_cons.mp hc with e | hc
  · rw [e]; exact ha
  · rw [List.mem_singleton.mp hc]; exact hb⟩
theorem heard_all {r : List A} {t : Nat} : (heard r t).length = r.length ↔ AllAt r t := by
  rw [heard_len, List.countP_eq_length]
  exact Iff.rfl
theorem cut_drop {α : Type} (xs : List α) (k : Nat) : D.cutL xs (some (k : Int)) none = xs.drop k := by
  have e1 : D.cutAt xs.length xs.length none = xs.length := rfl
  have e2 : D.cutAt xs.length 0 (some (k : Int)) = min xs.length k := by
    show (if (0 : Int) ≤ k then min xs.length (k : Int).toNat else ((xs.length : Int) + (k : Int)).toNat) = _
    rw [if_pos (by omega), Int.toNat_natCast]
  rw [D.cutL, e1, e2]
  by_cases h : xs.length ≤ k
  · rw [Nat.min_eq_left h, List.drop_length, List.take_nil, List.drop_eq_nil_of_le h]
  · rw [Nat.min_eq_right (by omega), List.take_of_length_le (by rw [List.length_drop]; omega)]
theorem cut_Rd {r : List A} {k : Nat} : D.cut (some (k : Int)) none (dR r) = .ok (dR (r.drop k)) := by
  show R.ok (D.tup (D.cutL (r.map dA) (some (k : Int)) none)) = _
  rw [cut_drop, ← List.map_drop]
  rfl
theorem okR_drop {r : List A} {k : Nat} (h : okR r) : okR (r.drop k) := ⟨by rw [List.length_drop]; have := h.1; omega, fun a ha => h.2 a (List.mem_of_mem_drop ha)⟩
theorem add_R {r r' : List A} (h : r.length + r'.length ≤ 1000) : D.add (dR r) (dR r') = .ok (dR (r ++ r')) := by
  rw [dR, dR, add_tt (by rw [List.length_map, List.length_map]; exact lim2 (by omega)), dR, List.map_append]
end RT

namespace RT
/-! S11: the other drawing; windows -/
theorem drawn_loop {ns : List Int} {k m c : D} : ∀ (n : Nat) (turn rest : Int), turn < n → ∃ (r a : Int),
    loopW (tAndF (tV (e2 D.gt (eV 5) (eC (.int 0)))) (tV (e2 D.gt (eV 4) (eC (.int 0))))) PP.b__law_drawn_1 n [some (.scr ns), some k, some m, some c, some (.int turn), some (.int rest)]
      = .nx [some (.scr ns), some k, some m, some c, some (.int a), some (.int r)] ∨ n = 0 := by
  intro n
  induction n with
  | zero => intro turn rest h; exact ⟨0, 0, .inr rfl⟩
  | succ n ih =>
    intro turn rest h
    by_cases h1 : 0 < rest
    · by_cases h2 : 0 < turn
      · obtain ⟨r, a, q⟩ := ih (turn - 1) (rest / 1000000) (by omega)
        rcases q with q | q
        · refine ⟨r, a, .inl ?_⟩
          have hb : PP.b__law_drawn_1 [some (.scr ns), some k, some m, some c, some (.int turn), some (.int rest)] = .nx [some (.scr ns), some k, some m, some c, some (.int (turn - 1)), some (.int (rest / 1000000))] := by simp [PP.b__law_drawn_1, fdiv_i]
          simp [loopW, h1, h2, hb, q]
        · subst q; omega
      · exact ⟨rest, turn, .inl (by simp [loopW, h1, h2])⟩
    · exact ⟨rest, turn, .inl (by simp [loopW, h1])⟩
theorem drawn_ok {ns : List Int} (hn : ns.length ≤ 63) (k m : Nat) (hm : 0 < m) (hk : k < 1000000 := by omega) : ∃ v : Nat, v < m ∧ PP.d__law_drawn [.scr ns, .int k, .int m] = .ok (.int v) := by
  have hm' : (0 : Int) < m := by omega
  have fin : ∀ x : Int, ∃ v : Nat, v < m ∧ x % (m : Int) = v := fun x => ⟨(x % (m : Int)).toNat, by
    have := Int.emod_nonneg x (show (m : Int) ≠ 0 by omega); have := Int.emod_lt_of_pos x (show (0 : Int) < m by omega); omega, by
    have := Int.emod_nonneg x (show (m : Int) ≠ 0 by omega); omega⟩
  -- the mix at the end
  have mix : ∀ (c : Int) (x4 x5 : Option D), ∃ v : Nat, v < m ∧ (sSeq (sSet 3 (e2 D.mod (e2 D.add (e2 D.mul (e2 D.mod (eV 3) (eC (.int 2147483563))) (eC (.int 69069))) (e2 D.mul (eC (.int 104723)) (e2 D.add (eV 1) (eC (.int 1))))) (eC (.int 2147483563))))
  (sSeq (sSet 3 (e2 D.mod (e2 D.add (e2 D.mul (eV 3) (eV 3)) (e2 D.fdiv (eV 3) (eC (.int 3)))) (eC (.int 2147483399))))
  (sRet (e2 D.mod (e2 D.fdiv (e2 D.mod (e2 D.add (e2 D.mul (eV 3) (eV 3)) (e2 D.fdiv (eV 3) (eC (.int 7)))) (eC (.int 2147483647))) (eC (.int 11))) (eV 2)))))
      [some (.scr ns), some (.int k), some (.int m), some (.int c), x4, x5] = .rt (.int v) := by
    intro c x4 x5
    generalize hd : (c % 2147483563 * 69069 + 104723 * ((k : Int) + 1)) % 2147483563 = d
    have d1 : 0 ≤ d := by omega
    have d2 : d < 2147483563 := by omega
    generalize he : (d * d + d / 3) % 2147483399 = e
    have e1' : 0 ≤ e := by omega
    have e2' : e < 2147483399 := by omega
    obtain ⟨v, hv, ev⟩ := fin ((e * e + e / 7) % 2147483647 / 11)
    refine ⟨v, hv, ?_⟩
    simp only [st_Seq, st_Set, ev_2, v_S, v_0, R.bind_ok, ev_C, mod_i (j := 2147483563) (by decide), mul_i (j := 69069) (.inr (by decide)), mul_i (i := 104723) (.inl (by decide)), add_i, hd, wr_o, List.set_cons_succ, List.set_cons_zero, at_n,
      mul_i (i := d) (j := d) (.inl (by omega)), fdiv_i (j := 3) (by decide) (by decide), mod_i (j := 2147483399) (by decide), he, mul_i (i := e) (j := e) (.inl (by omega)), fdiv_i (j := 7) (by decide) (by decide), mod_i (j := 2147483647) (by decide), fdiv_i (j := 11) (by decide) (by decide), st_Ret, mod_i hm', ev]
  have h7 : D.mul (.int 7) (.int (k : Int)) = .ok (.int (7 * (k : Int))) := mul_i (.inl (by decide))
  cases hns : ns.isEmpty with
  | true =>
    obtain ⟨v, hv, ev⟩ := mix (7 * (k : Int)) none none
    refine ⟨v, hv, ?_⟩
    unfold PP.d__law_drawn PP.s__law_drawn
    rw [body_eq]
    simp only [List.map_cons, List.map_nil, List.replicate, List.cons_append, List.nil_append]
    rw [st_Seq, st_Set]
    simp only [ev_2, ev_C, v_S, v_0, R.bind_ok, h7, wr_o, List.set_cons_succ, List.set_cons_zero, at_n]
    rw [st_Seq, st_If]
    simp only [tv_V, ev_2, v_0, R.bind_ok, ev_Lst, av_N, List.length_nil, Nat.zero_le, if_true, ne_scr, asB_b, hns, Bool.not_true, wr_o, Bool.false_eq_true, if_false, st_Nx, at_n, ev]
  | false =>
    have hl : 0 < ns.length := by cases ns <;> simp_all
    have hl' : (0 : Int) < ns.length := by omega
    have hl2 : (ns.length : Int) < 2 ^ 64 := by omega
    have hb := Nat.mod_lt k hl
    have hidx : D.idx (.scr ns) (.int ((k : Int) % (ns.length : Int))) = .ok (.int ns[k % ns.length]) := by
      have : ((k : Int) % (ns.length : Int)) = ((k % ns.length : Nat) : Int) := by simp
      rw [this, idx_s]
      exact at_nat (by simp [hb])
    generalize ns[k % ns.length] = c at hidx
    have hdiv : (k : Int) / (ns.length : Int) < 1000000 := by
      have : (k : Int) / (ns.length : Int) ≤ k := Int.ediv_le_self _ (by omega)
      omega
    have hdiv0 : 0 ≤ (k : Int) / (ns.length : Int) := Int.ediv_nonneg (by omega) (by omega)
    generalize hT : (k : Int) / (ns.length : Int) = T at hdiv hdiv0
    -- behind the test
    have rest : ∀ (x4 x5 : Option D), ∃ v : Nat, v < m ∧ andThen ((sSet 3 (e2 D.add (eV 3) (e2 D.mul (eC (.int 6553)) (e2 D.fdiv (eV 1) (eF D.bLen (aC (eV 0) aN)))))) [some (.scr ns), some (.int k), some (.int m), some (.int c), x4, x5]) (sSeq (sSet 3 (e2 D.mod (e2 D.add (e2 D.mul (e2 D.mod (eV 3) (eC (.int 2147483563))) (eC (.int 69069))) (e2 D.mul (eC (.int 104723)) (e2 D.add (eV 1) (eC (.int 1))))) (eC (.int 2147483563))))
  (sSeq (sSet 3 (e2 D.mod (e2 D.add (e2 D.mul (eV 3) (eV 3)) (e2 D.fdiv (eV 3) (eC (.int 3)))) (eC (.int 2147483399))))
  (sRet (e2 D.mod (e2 D.fdiv (e2 D.mod (e2 D.add (e2 D.mul (eV 3) (eV 3)) (e2 D.fdiv (eV 3) (eC (.int 7)))) (eC (.int 2147483647))) (eC (.int 11))) (eV 2))))) = .rt (.int v) := by
      intro x4 x5
      obtain ⟨v, hv, ev⟩ := mix (c + 6553 * T) x4 x5
      refine ⟨v, hv, ?_⟩
      have e0 : (sSet 3 (e2 D.add (eV 3) (e2 D.mul (eC (.int 6553)) (e2 D.fdiv (eV 1) (eF D.bLen (aC (eV 0) aN)))))) [some (.scr ns), some (.int k), some (.int m), some (.int c), x4, x5] = .nx [some (.scr ns), some (.int k), some (.int m), some (.int (c + 6553 * T)), x4, x5] := by
        simp only [st_Set, ev_2, v_S, v_0, ev_C, ev_F, av_C, av_N, R.bind_ok, bLen_s, fdiv_i hl' hl2, hT, mul_i (i := 6553) (.inl (by decide)), add_i, wr_o, List.set_cons_succ, List.set_cons_zero]
      rw [e0, at_n, ev]
    have hmatch : ∀ (o : Out) (v : Nat), o = .rt (.int v) → (match o with | .rt d => R.ok d | .nx _ => .ok .non | .er c _ => .err c | .stuck => .stuck) = R.ok (D.int v) := fun o v h => by rw [h]
    by_cases hbig : (10 : Int) ^ 18 ≤ c ∧ T < 60
    · obtain ⟨r, a, q⟩ := drawn_loop (ns := ns) (k := .int k) (m := .int m) (c := .int c) 1000000 T (c / 10 ^ 18) hdiv
      rcases q with q | q
      · by_cases hr : 0 < r
        · obtain ⟨v, hv, ev⟩ := fin (r % 1000000)
          refine ⟨v, hv, ?_⟩
          unfold PP.d__law_drawn PP.s__law_drawn
          rw [body_eq]
          refine hmatch _ v ?_
          simp only [List.map_cons, List.map_nil, List.replicate, List.cons_append, List.nil_append, st_Seq, st_Set, ev_2, ev_C, v_S, v_0, R.bind_ok, h7, wr_o, List.set_cons_succ, List.set_cons_zero, at_n, st_If, tv_V, ev_Lst, av_N, List.length_nil, lim0, if_true, ne_scr, asB_b, hns, Bool.not_false, ev_F, av_C, bLen_s, mod_i hl', hidx, fdiv_i hl' hl2, hT, tv_And, pow18, ge_i, decide_eq_true hbig.1, lt_i, decide_eq_true hbig.2,
            fdiv_i (show (0 : Int) < 10 ^ 18 by decide) (show (10 ^ 18 : Int) < 2 ^ 64 by decide), st_While, show fuel = 1000000 from rfl, q, gt_i, decide_eq_true hr, st_Ret, mod_i (j := 1000000) (by decide), mod_i hm', ev, at_r]
        · obtain ⟨v, hv, ev⟩ := rest (some (.int a)) (some (.int r))
          refine ⟨v, hv, ?_⟩
          unfold PP.d__law_drawn PP.s__law_drawn
          rw [body_eq]
          refine hmatch _ v ?_
          rw [← ev]
          simp only [List.map_cons, List.map_nil, List.replicate, List.cons_append, List.nil_append, st_Seq, st_Set, ev_2, ev_C, v_S, v_0, R.bind_ok, h7, wr_o, List.set_cons_succ, List.set_cons_zero, at_n, st_If, tv_V, ev_Lst, av_N, List.length_nil, lim0, if_true, ne_scr, asB_b, hns, Bool.not_false, ev_F, av_C, bLen_s, mod_i hl', hidx, fdiv_i hl' hl2, hT, tv_And, pow18, ge_i, decide_eq_true hbig.1, lt_i, decide_eq_true hbig.2,
            fdiv_i (show (0 : Int) < 10 ^ 18 by decide) (show (10 ^ 18 : Int) < 2 ^ 64 by decide), st_While, show fuel = 1000000 from rfl, q, gt_i, decide_eq_false hr, Bool.false_eq_true, if_false, st_Nx]
      · exact absurd q (by decide)
    · obtain ⟨v, hv, ev⟩ := rest (some (.int T)) none
      refine ⟨v, hv, ?_⟩
      unfold PP.d__law_drawn PP.s__law_drawn
      rw [body_eq]
      refine hmatch _ v ?_
      rw [← ev]
      have ht : ∀ x5, (tAndF (tV (e2 D.ge (eV 3) (e2 D.pow (eC (.int 10)) (eC (.int 18))))) (tV (e2 D.lt (eV 4) (eC (.int 60))))) [some (.scr ns), some (.int k), some (.int m), some (.int c), some (.int T), x5] = .ok false := fun x5 => by
        by_cases h1 : (10 : Int) ^ 18 ≤ c
        · have h2 : ¬ T < 60 := fun h => hbig ⟨h1, h⟩
          simp only [tv_And, tv_V, ev_2, v_S, v_0, ev_C, R.bind_ok, pow18, ge_i, decide_eq_true h1, asB_b, if_true, lt_i, decide_eq_false h2]
        · simp only [tv_And, tv_V, ev_2, v_S, v_0, ev_C, R.bind_ok, pow18, ge_i, decide_eq_false h1, asB_b, Bool.false_eq_true, if_false]
      simp only [List.map_cons, List.map_nil, List.replicate, List.cons_append, List.nil_append, st_Seq, st_Set, ev_2, ev_C, v_S, v_0, R.bind_ok, h7, wr_o, List.set_cons_succ, List.set_cons_zero, at_n, st_If, tv_V, ev_Lst, av_N, List.length_nil, lim0, if_true, ne_scr, asB_b, hns, Bool.not_false, ev_F, av_C, bLen_s, mod_i hl', hidx, fdiv_i hl' hl2, hT, ht, Bool.false_eq_true, if_false, st_Nx]
def periodsD : List Nat := [1, 2, 3, 4, 6, 8, 5, 12, 10, 4]
theorem alarmD_ok {ns : List Int} (hn : ns.length ≤ 63) (k : Nat) (hk : k < 999999 := by omega) : ∃ a : A, okA a ∧ a.1 ∈ periodsD ∧ PP.d__law_alarm [.scr ns, .int k] = .ok (dA a) := by
  obtain ⟨v, hv, e⟩ := drawn_ok hn k 10 (by decide) (by omega)
  have hv' : v < periodsD.length := hv
  have h1 : 1 ≤ periodsD[v] := (show ∀ p ∈ periodsD, 1 ≤ p by decide) _ (List.getElem_mem hv')
  have h2 : periodsD[v] ≤ 60 := (show ∀ p ∈ periodsD, p ≤ 60 by decide) _ (List.getElem_mem hv')
  have h3 : D.at? [D.int 1, D.int 2, D.int 3, D.int 4, D.int 6, D.int 8, D.int 5, D.int 12, D.int 10, D.int 4] (v : Int) = .ok (.int (periodsD[v] : Nat)) := by
    rw [show [D.int 1, D.int 2, D.int 3, D.int 4, D.int 6, D.int 8, D.int 5, D.int 12, D.int 10, D.int 4] = periodsD.map fun p : Nat => D.int p from rfl]
    exact at_nat (by simp [hv'])
  obtain ⟨s, hs, e'⟩ := drawn_ok hn (k + 1) periodsD[v] (by omega) (by omega)
  refine ⟨(periodsD[v], s), ⟨h1, h2, hs⟩, List.getElem_mem hv', ?_⟩
  have e : PP.d__law_drawn [.scr ns, .int k, .int 10] = .ok (.int v) := e
  have e' : PP.d__law_drawn [.scr ns, .int ((k : Int) + 1), .int (periodsD[v] : Nat)] = .ok (.int s) := e'
  simp only [PP.d__law_alarm, PP.s__law_alarm, body_eq, List.map_cons, List.map_nil, List.replicate, List.cons_append, List.nil_append, st_Seq, st_Set, ev_2, ev_Lst, av_C, av_N, ev_C, R.bind_ok, ev_F, v_0, v_S, e]
  simp only [List.length_cons, List.length_nil, Nat.reduceAdd, lim2 (n := 10), if_true, R.bind_ok, idx_l, h3, wr_o, List.set_cons_succ, List.set_cons_zero, at_n, st_Ret, ev_Tup, av_C, av_N, v_0, v_S, ev_F, ev_2, add_i, ev_C, e', lim2 (n := 2), dA]
theorem rowD_ok {ns : List Int} (hn : ns.length ≤ 63) (k m : Nat) (hm : m ≤ 6) (hk : k < 999900 := by omega) : ∃ r : List A, okR r ∧ r.length ≤ m ∧ (∀ a ∈ r, a.1 ∈ periodsD) ∧ PP.d__law_row [.scr ns, .int k, .int m] = .ok (dR r) := by
  obtain ⟨n, hn', e⟩ := drawn_ok hn k (m + 1) (by omega) (by omega)
  have ch : ∀ i : Nat, ∃ a : A, i < n → okA a ∧ a.1 ∈ periodsD ∧ PP.d__law_alarm [.scr ns, .int ((k + 1 + 2 * i : Nat) : Int)] = .ok (dA a) := fun i => by
    by_cases hi : i < n
    · obtain ⟨a, h1, h2, h3⟩ := alarmD_ok hn (k + 1 + 2 * i) (by omega)
      exact ⟨a, fun _ => ⟨h1, h2, h3⟩⟩
    · exact ⟨(1, 0), fun h => absurd h hi⟩
  let fa : Nat → A := fun i => Classical.choose (ch i)
  have hfa : ∀ i, i < n → okA (fa i) ∧ (fa i).1 ∈ periodsD ∧ PP.d__law_alarm [.scr ns, .int ((k + 1 + 2 * i : Nat) : Int)] = .ok (dA (fa i)) := fun i => Classical.choose_spec (ch i)
  refine ⟨(List.range n).map fa, ⟨by simp; omega, fun a ha => ?_⟩, by simp; omega, fun a ha => ?_, ?_⟩
  · obtain ⟨i, hi, rfl⟩ := List.mem_map.mp ha
    exact (hfa i (List.mem_range.mp hi)).1
  · obtain ⟨i, hi, rfl⟩ := List.mem_map.mp ha
    exact (hfa i (List.mem_range.mp hi)).2.1
  have hc : compL (gN 3) tYesF (eF PP.d__law_alarm (aC (eV 0) (aC (e2 D.add (e2 D.add (eV 1) (eC (.int 1))) (e2 D.mul (eC (.int 2)) (eV 3))) aN))) [some (.scr ns), some (.int k), some (.int m), none] ((List.range n).map fun i => .int (i : Nat))
      = .ok ((List.range n).map fun i => dA (fa i)) :=
    compL_all _ _ _ fun i hi => ⟨_, rfl, by
      have := (hfa i (List.mem_range.mp hi)).2.2
      have h2 : (k : Int) + 1 + 2 * i = ((k + 1 + 2 * i : Nat) : Int) := by omega
      simp only [ev_F, av_C, av_N, v_S, v_0, R.bind_ok, List.set_cons_succ, List.set_cons_zero, ev_2, add_i, ev_C, mul_i (i := 2) (.inl (by decide)), h2, this]⟩
  have e : PP.d__law_drawn [.scr ns, .int k, .int ((m : Int) + 1)] = .ok (.int n) := e
  simp only [PP.d__law_row, PP.s__law_row, body_eq, List.map_cons, List.map_nil, List.replicate, List.cons_append, List.nil_append, st_Ret, ev_F, av_C, av_N, ev_Comp, iv_A, v_0, v_S, R.bind_ok, ev_2, add_i, ev_C, e, rngA_1]
  rw [rng_nat (lim2 (by omega))]
  simp only [R.bind_ok, wv_C, wv_0, List.set_cons_succ, List.set_cons_zero, hc, bTuple_l, wr_o, dR, List.map_map]
  rfl
end RT

namespace RT
/-! S12: rings in windows -/
theorem before_A {a : A} (h : okA a) {e : Nat} : PP.d_rings_before [dA a, .int e] = .ok (.int (ringsBefore a e : Nat)) := by
  have i0 : ∀ c : A, D.idx (dA c) (.int 0) = .ok (.int (c.1 : Nat)) := fun _ => rfl
  have i1 : ∀ c : A, D.idx (dA c) (.int 1) = .ok (.int (c.2 : Nat)) := fun _ => rfl
  have h0 : (0 : Int) < a.1 := by have := h.1; omega
  by_cases hc : (a.2 : Int) < e
  · simp only [PP.d_rings_before, PP.s_rings_before, body_eq, List.map_cons, List.map_nil, List.replicate, List.append_nil, st_Ret, ev_If, tv_V, ev_2, v_S, v_0, ev_C, R.bind_ok, i0, i1, gt_i, decide_eq_true hc, asB_b, if_true, sub_i, add_i, fdiv_i h0 (by have := h.2.1; omega), wr_o, ringsBefore_int h]
  · have : ringsBefore a e = 0 := Nat.div_eq_of_lt (by have := h.2.2; omega)
    simp only [PP.d_rings_before, PP.s_rings_before, body_eq, List.map_cons, List.map_nil, List.replicate, List.append_nil, st_Ret, ev_If, tv_V, ev_2, v_S, v_0, ev_C, R.bind_ok, i1, gt_i, decide_eq_false hc, asB_b, Bool.false_eq_true, if_false, wr_o, this]
    rfl
theorem countR_mono {r : List A} (h : ∀ a ∈ r, okA a) {s e : Nat} (hs : s ≤ e) : countR r s ≤ countR r e := by
  induction e with
  | zero => rw [show s = 0 by omega]; exact Nat.le_refl _
  | succ e ih =>
    by_cases q : s = e + 1
    · rw [q]; exact Nat.le_refl _
    · have := ih (by omega)
      rw [countR_succ h]
      omega
/-- the rings in a window -/
def win (r : List A) (s l : Nat) : Nat := countR r (s + l) - countR r s
theorem sumI_sub (r : List A) (s e : Nat) : (r.map fun a => ((ringsBefore a e : Nat) : Int) - (ringsBefore a s : Nat)).sum = (countR r e : Nat) - (countR r s : Nat) := by
  induction r with
  | nil => rfl
  | cons a r ih =>
    simp only [List.map_cons, List.sum_cons, ih, countR]
    omega
theorem find_rings_R {r : List A} (h : okR r) {s l : Nat} : PP.d_find_rings [dR r, .int s, .int l] = .ok (.int (win r s l : Nat)) := by
  have hc : compL (gN 3) tYesF (e2 D.sub (eF PP.d_rings_before (aC (eV 3) (aC (e2 D.add (eV 1) (eV 2)) aN))) (eF PP.d_rings_before (aC (eV 3) (aC (eV 1) aN)))) [some (dR r), some (.int s), some (.int l), none] (r.map dA)
      = .ok (r.map fun a => .int (((ringsBefore a (s + l) : Nat) : Int) - (ringsBefore a s : Nat))) :=
    compL_all _ _ _ fun a ha => ⟨_, rfl, by
      have h1 := before_A (h.2 a ha) (e := s + l)
      have h1 : PP.d_rings_before [dA a, .int ((s : Int) + (l : Int))] = .ok (.int (ringsBefore a (s + l) : Nat)) := h1
      simp only [ev_2, ev_F, av_C, av_N, v_S, v_0, List.set_cons_succ, List.set_cons_zero, R.bind_ok, add_i, h1, before_A (h.2 a ha), sub_i]⟩
  have hs := bSum_map (f := fun a : A => ((ringsBefore a (s + l) : Nat) : Int) - (ringsBefore a s : Nat)) (xs := r)
  have hm := countR_mono h.2 (s := s) (e := s + l) (by omega)
  have hw : ((win r s l : Nat) : Int) = (countR r (s + l) : Nat) - (countR r s : Nat) := by rw [win]; omega
  have hit : D.items (dR r) = .ok (r.map dA) := rfl
  simp only [PP.d_find_rings, PP.s_find_rings, body_eq, List.map_cons, List.map_nil, List.replicate, List.cons_append, List.nil_append, st_Ret, ev_F, av_C, av_N, ev_Comp, iv_Items, v_0, R.bind_ok, hit, wv_C, wv_0, List.set_cons_succ, List.set_cons_zero, hc, hs, wr_o, sumI_sub, hw]
theorem check_number_ok {v a b : Int} (h1 : a ≤ v) (h2 : v ≤ b) : PP.d_check_number [.int v, .int a, .int b] = .ok .non := by
  have := is_int_ok (v := v) (a := a) (b := b)
  rw [decide_eq_true h1, decide_eq_true h2] at this
  simp [PP.d_check_number, PP.s_check_number, this]
theorem rings_in_R {r : List A} (h : okR r) {s l : Nat} (h1 : 1 ≤ l) (h2 : l ≤ 1000) : PP.d_rings_in [dR r, .int s, .int l] = .ok (.int (win r s l : Nat)) := by
  simp only [PP.d_rings_in, PP.s_rings_in, body_eq, List.map_cons, List.map_nil, List.replicate, List.append_nil, st_Seq, st_Drop, ev_F, av_C, av_N, v_S, v_0, ev_C, R.bind_ok, check_row_R h, check_time_N (show (0 : Int) ≤ s by omega), check_number_ok (show (1 : Int) ≤ l by omega) (show (l : Int) ≤ 1000 by omega), wr_o, at_n, st_Ret, find_rings_R h]
def wins (r : List A) (l : Nat) : List Nat := (List.range (cyc r)).map fun s => win r s l
theorem all_windows_R {r : List A} (h : okR r) (hc : cyc r ≤ 5000) {l : Nat} (h1 : 1 ≤ l) (h2 : l ≤ 1000) : PP.d_all_windows [dR r, .int l] = .ok (dN (wins r l)) := by
  have hcm : compL (gN 2) tYesF (eF PP.d_find_rings (aC (eV 0) (aC (eV 2) (aC (eV 1) aN)))) [some (dR r), some (.int l), none] ((List.range (cyc r)).map fun k => .int (k : Nat)) = .ok ((List.range (cyc r)).map fun s => .int (win r s l : Nat)) :=
    compL_all _ _ _ fun s _ => ⟨_, rfl, by simp only [ev_F, av_C, av_N, v_S, v_0, List.set_cons_succ, List.set_cons_zero, R.bind_ok, find_rings_R h]⟩
  simp only [PP.d_all_windows, PP.s_all_windows, body_eq, List.map_cons, List.map_nil, List.replicate, List.cons_append, List.nil_append, st_Seq, st_Drop, ev_F, av_C, av_N, v_S, v_0, ev_C, R.bind_ok, check_row_R h, check_number_ok (show (1 : Int) ≤ l by omega) (show (l : Int) ≤ 1000 by omega), check_cycle_R h hc, wr_o, at_n, st_Ret, ev_Comp, iv_A, find_cycle_R h.2, rngA_1]
  rw [rng_nat (lim2 (by omega))]
  simp only [R.bind_ok, wv_C, wv_0, List.set_cons_succ, List.set_cons_zero, hcm, wr_o, dN, wins, List.map_map]
  rfl
def most (r : List A) (l : Nat) : Int := D.maxI ((wins r l).map fun k : Nat => (k : Int))
def least (r : List A) (l : Nat) : Int := D.minI ((wins r l).map fun k : Nat => (k : Int))
theorem wins_ne {r : List A} (h : ∀ a ∈ r, okA a) (l : Nat) : wins r l ≠ [] := by
  have := cyc_pos h
  intro q
  have := congrArg List.length q
  rw [wins, List.length_map, List.length_range] at this
  simp at this
  omega
theorem most_R {r : List A} (h : okR r) (hc : cyc r ≤ 5000) {l : Nat} (h1 : 1 ≤ l) (h2 : l ≤ 1000) : PP.d_most_rings [dR r, .int l] = .ok (.int (most r l)) := by
  have := bMax_map (f := fun k : Nat => (k : Int)) (wins_ne h.2 l)
  simp only [PP.d_most_rings, PP.s_most_rings, body_eq, List.map_cons, List.map_nil, List.replicate, List.append_nil, st_Ret, ev_F, av_C, av_N, v_S, v_0, R.bind_ok, all_windows_R h hc h1 h2, dN, this, wr_o, most]
theorem least_R {r : List A} (h : okR r) (hc : cyc r ≤ 5000) {l : Nat} (h1 : 1 ≤ l) (h2 : l ≤ 1000) : PP.d_least_rings [dR r, .int l] = .ok (.int (least r l)) := by
  have := bMin_map (f := fun k : Nat => (k : Int)) (wins_ne h.2 l)
  simp only [PP.d_least_rings, PP.s_least_rings, body_eq, List.map_cons, List.map_nil, List.replicate, List.append_nil, st_Ret, ev_F, av_C, av_N, v_S, v_0, R.bind_ok, all_windows_R h hc h1 h2, dN, this, wr_o, least]
theorem maxI_le {xs : List Int} {x : Int} (h : x ∈ xs) : x ≤ D.maxI xs := by
  induction xs with
  | nil => simp at h
  | cons y ys ih =>
    cases ys with
    | nil => simp at h; simp [D.maxI, h]
    | cons z zs =>
      show x ≤ (if D.maxI (z :: zs) < y then y else D.maxI (z :: zs))
      rcases List.mem_cons.mp h with e | h
      · subst e; split <;> omega
      · have := ih h; split <;> omega
theorem minI_le {xs : List Int} {x : Int} (h : x ∈ xs) : D.minI xs ≤ x := by
  induction xs with
  | nil => simp at h
  | cons y ys ih =>
    cases ys with
    | nil => simp at h; simp [D.minI, h]
    | cons z zs =>
      show (if y < D.minI (z :: zs) then y else D.minI (z :: zs)) ≤ x
      rcases List.mem_cons.mp h with e | h
      · subst e; split <;> omega
      · have := ih h; split <;> omega
/-! windows repeat -/
theorem before_shift {a : A} (h : okB a) {s L : Nat} (hd : a.1 ∣ L) : ringsBefore a (s + L) = ringsBefore a s + L / a.1 := by
  obtain ⟨m, rfl⟩ := hd
  have hp : 0 < a.1 := h.1
  rw [ringsBefore, ringsBefore, show s + a.1 * m + (a.1 - 1 - a.2) = a.1 * m + (s + (a.1 - 1 - a.2)) by omega, Nat.mul_add_div hp, Nat.mul_div_cancel_left _ hp]
  omega
theorem countR_shift {r : List A} (h : ∀ a ∈ r, okA a) {s L : Nat} (hd : ∀ a ∈ r, a.1 ∣ L) : countR r (s + L) = countR r s + countR r L := by
  induction r with
  | nil => rfl
  | cons a r ih =>
    have ih := ih (fun b hb => h b (by simp [hb])) fun b hb => hd b (by simp [hb])
    have h1 := before_shift (h a (by simp)).b (s := s) (hd a (by simp))
    have h2 := before_dvd (h a (by simp)).b (hd a (by simp))
    simp only [countR, List.map_cons, List.sum_cons] at ih ⊢
    rw [ih, h1, h2]
    omega
theorem win_shift {r : List A} (h : ∀ a ∈ r, okA a) (s l : Nat) : win r (s + cyc r) l = win r s l := by
  have e1 := countR_shift h (s := s + l) (L := cyc r) fun a ha => dvd_cyc ha
  have e2 := countR_shift h (s := s) (L := cyc r) fun a ha => dvd_cyc ha
  rw [win, win, show s + cyc r + l = s + l + cyc r by omega, e1, e2]
  omega
theorem win_mul {r : List A} (h : ∀ a ∈ r, okA a) (s l : Nat) : ∀ k, win r (s + cyc r * k) l = win r s l
  | 0 => by simp
  | k + 1 => by rw [Nat.mul_succ, ← Nat.add_assoc, win_shift h, win_mul h s l k]
theorem win_mod {r : List A} (h : ∀ a ∈ r, okA a) (s l : Nat) : win r (s % cyc r) l = win r s l := by
  have := win_mul h (s % cyc r) l (s / cyc r)
  rw [← this]
  congr 1
  have := Nat.div_add_mod s (cyc r)
  omega
theorem win_mem {r : List A} (h : ∀ a ∈ r, okA a) (s l : Nat) : ((win r s l : Nat) : Int) ∈ (wins r l).map fun k : Nat => (k : Int) :=
  List.mem_map.mpr ⟨win r s l, List.mem_map.mpr ⟨s % cyc r, List.mem_range.mpr (Nat.mod_lt _ (cyc_pos h)), win_mod h s l⟩, rfl⟩
theorem le_most {r : List A} (h : ∀ a ∈ r, okA a) (s l : Nat) : ((win r s l : Nat) : Int) ≤ most r l := maxI_le (win_mem h s l)
theorem least_le {r : List A} (h : ∀ a ∈ r, okA a) (s l : Nat) : least r l ≤ ((win r s l : Nat) : Int) := minI_le (win_mem h s l)
theorem most_ex {r : List A} (h : ∀ a ∈ r, okA a) (l : Nat) : ∃ s, s < cyc r ∧ most r l = (win r s l : Nat) := by
  have := maxI_mem (xs := (wins r l).map fun k : Nat => (k : Int)) (by simpa using wins_ne h l)
  obtain ⟨k, hk, e⟩ := List.mem_map.mp this
  obtain ⟨s, hs, rfl⟩ := List.mem_map.mp hk
  exact ⟨s, List.mem_range.mp hs, e.symm⟩
theorem least_ex {r : List A} (h : ∀ a ∈ r, okA a) (l : Nat) : ∃ s, s < cyc r ∧ least r l = (win r s l : Nat) := by
  have := minI_mem (xs := (wins r l).map fun k : Nat => (k : Int)) (by simpa using wins_ne h l)
  obtain ⟨k, hk, e⟩ := List.mem_map.mp this
  obtain ⟨s, hs, rfl⟩ := List.mem_map.mp hk
  exact ⟨s, List.mem_range.mp hs, e.symm⟩
theorem win_grow {r : List A} (h : ∀ a ∈ r, okA a) (s l : Nat) : win r s l ≤ win r s (l + 1) := by
  have := countR_mono h (s := s + l) (e := s + (l + 1)) (by omega)
  rw [win, win]
  omega
theorem most_grow {r : List A} (h : ∀ a ∈ r, okA a) (l : Nat) : most r l ≤ most r (l + 1) := by
  obtain ⟨s, -, e⟩ := most_ex h l
  have := le_most h s (l + 1)
  have := win_grow h s l
  omega
theorem least_grow {r : List A} (h : ∀ a ∈ r, okA a) (l : Nat) : least r l ≤ least r (l + 1) := by
  obtain ⟨s, -, e⟩ := least_ex h (l + 1)
  have := least_le h s l
  have := win_grow h s l
  omega
/-! moved windows -/
theorem countR_mv {r : List A} {k : Nat} (h : ∀ a ∈ r, okA a) (e : Nat) : countR (r.map (mv k)) (e + k) = countR (r.map (mv k)) k + countR r e := by
  have hm : ∀ a ∈ r.map (mv k), okA a := fun a ha => by obtain ⟨b, hb, rfl⟩ := List.mem_map.mp ha; exact okA_mv (h b hb)
  induction e with
  | zero => rw [Nat.zero_add, countR_zero h]; omega
  | succ e ih => rw [show e + 1 + k = (e + k) + 1 by omega, countR_succ hm, countR_succ h, heard_mv h, ih]; omega
theorem win_mv {r : List A} {k : Nat} (h : ∀ a ∈ r, okA a) (s l : Nat) : win (r.map (mv k)) (s + k) l = win r s l := by
  rw [win, win, show s + k + l = s + l + k by omega, countR_mv h, countR_mv h]
  omega
theorem most_mv {r : List A} {k : Nat} (h : ∀ a ∈ r, okA a) (l : Nat) : most (r.map (mv k)) l = most r l := by
  have hm : ∀ a ∈ r.map (mv k), okA a := fun a ha => by obtain ⟨b, hb, rfl⟩ := List.mem_map.mp ha; exact okA_mv (h b hb)
  have h1 : most r l ≤ most (r.map (mv k)) l := by
    obtain ⟨s, -, e⟩ := most_ex h l
    have := le_most hm (s + k) l
    rw [win_mv h] at this
    omega
  have h2 : most (r.map (mv k)) l ≤ most r l := by
    obtain ⟨s, -, e⟩ := most_ex hm l
    have h3 := win_mul hm s l k
    have hp := cyc_pos h
    rw [cyc_mv] at h3
    have : s + cyc r * k = (s + (cyc r * k - k)) + k := by
      have : k ≤ cyc r * k := Nat.le_mul_of_pos_left k hp
      omega
    rw [this, win_mv h] at h3
    have := le_most h (s + (cyc r * k - k)) l
    omega
  omega
theorem least_mv {r : List A} {k : Nat} (h : ∀ a ∈ r, okA a) (l : Nat) : least (r.map (mv k)) l = least r l := by
  have hm : ∀ a ∈ r.map (mv k), okA a := fun a ha => by obtain ⟨b, hb, rfl⟩ := List.mem_map.mp ha; exact okA_mv (h b hb)
  have h1 : least (r.map (mv k)) l ≤ least r l := by
    obtain ⟨s, -, e⟩ := least_ex h l
    have := least_le hm (s + k) l
    rw [win_mv h] at this
    omega
  have h2 : least r l ≤ least (r.map (mv k)) l := by
    obtain ⟨s, -, e⟩ := least_ex hm l
    have h3 := win_mul hm s l k
    have hp := cyc_pos h
    rw [cyc_mv] at h3
    have : s + cyc r * k = (s + (cyc r * k - k)) + k := by
      have : k ≤ cyc r * k := Nat.le_mul_of_pos_left k hp
      omega
    rw [this, win_mv h] at h3
    have := least_le h (s + (cyc r * k - k)) l
    omega
  omega
/-! the busiest start -/
theorem busiest_R {r : List A} (h : okR r) (hc : cyc r ≤ 5000) {l : Nat} (h1 : 1 ≤ l) (h2 : l ≤ 1000) : ∃ s, s < cyc r ∧ PP.d_busiest [dR r, .int l] = .ok (.int (s : Nat)) ∧ ((win r s l : Nat) : Int) = most r l ∧ ∀ t < s, ((win r t l : Nat) : Int) < most r l := by
  have hmax := bMax_map (f := fun k : Nat => (k : Int)) (wins_ne h.2 l)
  have hmem := maxI_mem (xs := (wins r l).map fun k : Nat => (k : Int)) (by simpa using wins_ne h.2 l)
  have hlt : ((wins r l).map fun k : Nat => (k : Int)).idxOf (most r l) < ((wins r l).map fun k : Nat => (k : Int)).length := List.idxOf_lt_length_iff.mpr hmem
  have hlen : ((wins r l).map fun k : Nat => (k : Int)).length = cyc r := by rw [List.length_map, wins, List.length_map, List.length_range]
  generalize hs : ((wins r l).map fun k : Nat => (k : Int)).idxOf (most r l) = s at hlt
  have hat : ∀ (t : Nat) (ht : t < ((wins r l).map fun k : Nat => (k : Int)).length), ((wins r l).map fun k : Nat => (k : Int))[t] = (win r t l : Nat) := fun t ht => by simp [wins]
  refine ⟨s, by omega, ?_, ?_, fun t ht => ?_⟩
  · have hin := intsOf_map (f := fun k : Nat => (k : Int)) (wins r l)
    have hcon : ((wins r l).map fun k : Nat => (k : Int)).contains (D.maxI ((wins r l).map fun k : Nat => (k : Int))) = true := List.contains_iff_mem.mpr hmem
    have hs' : ((wins r l).map fun k : Nat => (k : Int)).idxOf (D.maxI ((wins r l).map fun k : Nat => (k : Int))) = s := hs
    simp only [PP.d_busiest, PP.s_busiest, body_eq, List.map_cons, List.map_nil, List.replicate, List.cons_append, List.nil_append, st_Seq, st_Set, ev_F, av_C, av_N, v_S, v_0, R.bind_ok, all_windows_R h hc h1 h2, dN, wr_o, List.set_cons_succ, List.set_cons_zero, at_n, st_Ret, eMth, hin, hmax, D.index, hcon, if_true, hs']
  · have := List.getElem_idxOf (show ((wins r l).map fun k : Nat => (k : Int)).idxOf (most r l) < _ by rw [hs]; exact hlt)
    rw [← hat s hlt]
    subst hs
    exact this
  · have ht' : t < ((wins r l).map fun k : Nat => (k : Int)).length := by omega
    have hne : ¬ ((win r t l : Nat) : Int) = most r l := by
      intro q
      have hn := List.not_of_lt_findIdx (p := (· == most r l)) (xs := (wins r l).map fun k : Nat => (k : Int)) (i := t) (by rw [← hs] at ht; exact ht)
      rw [hat t ht', q] at hn
      simp at hn
    have := le_most h.2 t l
    omega
end RT

namespace RT
/-! S13: the least length for so many rings -/
theorem loopF_app {g : GF} {b : SF} : ∀ (l m : List D) (ρ ρ' : Env), loopF g b l ρ = .nx ρ' → loopF g b (l ++ m) ρ = loopF g b m ρ'
  | [], m, ρ, ρ', h => by cases h; rfl
  | d :: l, m, ρ, ρ', h => by
    simp only [List.cons_append, loopF] at h ⊢
    cases hg : g d ρ with
    | none => rw [hg] at h; cases h
    | some ρ1 =>
      rw [hg] at h
      simp only at h ⊢
      cases hb : b ρ1 with
      | nx ρ3 => rw [hb] at h; exact loopF_app l m ρ3 ρ' h
      | rt d => rw [hb] at h; cases h
      | er c ρ3 => rw [hb] at h; cases h
      | stuck => rw [hb] at h; cases h
/-- a loop over a range, turn by turn -/
theorem loopF_run {g : GF} {b : SF} (inj : Nat → D) (S : Nat → Env → Prop) (ρ : Env) (h0 : S 0 ρ) : ∀ n : Nat, (∀ k < n, ∀ ρ, S k ρ → ∃ ρ1 ρ2, g (inj k) ρ = some ρ1 ∧ b ρ1 = .nx ρ2 ∧ S (k + 1) ρ2) → ∃ ρ', loopF g b ((List.range n).map inj) ρ = .nx ρ' ∧ S n ρ'
  | 0, _ => ⟨ρ, rfl, h0⟩
  | n + 1, hs => by
    obtain ⟨ρ', e, s⟩ := loopF_run inj S ρ h0 n fun k hk => hs k (by omega)
    obtain ⟨ρ1, ρ2, h1, h2, h3⟩ := hs n (by omega) ρ' s
    refine ⟨ρ2, ?_, h3⟩
    rw [List.range_succ, List.map_append, loopF_app _ _ _ _ e, List.map_cons, List.map_nil, loopF, h1]
    simp only [h2, at_n, loopF]
/-- the rings' times in order, before L -/
def ringL (r : List A) : Nat → List Nat
  | 0 => []
  | L + 1 => ringL r L ++ List.replicate (heard r L).length L
theorem ringL_len {r : List A} (h : ∀ a ∈ r, okA a) : ∀ L, (ringL r L).length = countR r L
  | 0 => by rw [countR_zero h]; rfl
  | L + 1 => by rw [ringL, List.length_append, List.length_replicate, ringL_len h L, countR_succ h]
theorem ringL_get {r : List A} (h : ∀ a ∈ r, okA a) : ∀ (L j : Nat), j < countR r L → ∃ v, (ringL r L)[j]? = some v ∧ ∀ e ≤ L, (v < e ↔ j < countR r e)
  | 0, j, hj => by rw [countR_zero h] at hj; omega
  | L + 1, j, hj => by
    by_cases hc : j < countR r L
    · obtain ⟨v, h1, h2⟩ := ringL_get h L j hc
      refine ⟨v, by rw [ringL, List.getElem?_append_left (by rw [ringL_len h]; exact hc)]; exact h1, fun e he => ?_⟩
      by_cases q : e ≤ L
      · exact h2 e q
      · have : e = L + 1 := by omega
        subst this
        have := (h2 L (Nat.le_refl _)).mpr hc
        exact ⟨fun _ => hj, fun _ => by omega⟩
    · have hl := ringL_len h L
      rw [countR_succ h] at hj
      refine ⟨L, ?_, fun e he => ?_⟩
      · rw [ringL, List.getElem?_append_right (by omega), List.getElem?_replicate, if_pos (by omega)]
      · by_cases q : e ≤ L
        · have := countR_mono h q
          exact ⟨fun _ => by omega, fun _ => by omega⟩
        · have : e = L + 1 := by omega
          subst this
          rw [countR_succ h]
          exact ⟨fun _ => by omega, fun _ => by omega⟩
/-- the time of ring j -/
def rt (r : List A) (j : Nat) : Nat := (ringL r (cyc r)).getD (j % countR r (cyc r)) 0 + j / countR r (cyc r) * cyc r
theorem countR_mul {r : List A} (h : ∀ a ∈ r, okA a) (e : Nat) : ∀ c, countR r (e + cyc r * c) = countR r e + countR r (cyc r) * c
  | 0 => by simp
  | c + 1 => by rw [Nat.mul_succ, ← Nat.add_assoc, countR_shift h fun a ha => dvd_cyc ha, countR_mul h e c, Nat.mul_succ]; omega
theorem rt_lt {r : List A} (h : ∀ a ∈ r, okA a) (hN : 0 < countR r (cyc r)) (j e : Nat) : rt r j < e ↔ j < countR r e := by
  have hL := cyc_pos h
  have hb := Nat.mod_lt j hN
  obtain ⟨v, h1, h2⟩ := ringL_get h (cyc r) (j % countR r (cyc r)) hb
  have hv : (ringL r (cyc r)).getD (j % countR r (cyc r)) 0 = v := by rw [List.getD_eq_getElem?_getD, h1]; rfl
  have hvL : v < cyc r := (h2 _ (Nat.le_refl _)).mpr hb
  have hj := Nat.div_add_mod j (countR r (cyc r))
  have he := Nat.div_add_mod e (cyc r)
  have hd := Nat.mod_lt e hL
  have hC := countR_mul h (e % cyc r) (e / cyc r)
  rw [show e % cyc r + cyc r * (e / cyc r) = e by omega] at hC
  have hm := countR_mono h (show e % cyc r ≤ cyc r by omega)
  have key := h2 (e % cyc r) (by omega)
  rw [rt, hv, hC]
  generalize j / countR r (cyc r) = a at hj ⊢
  generalize j % countR r (cyc r) = b at hj hb key
  generalize e / cyc r = c at he ⊢
  generalize e % cyc r = d at he hd hm key ⊢
  generalize countR r (cyc r) = N at *
  generalize cyc r = L at *
  rcases Nat.lt_trichotomy a c with q | q | q
  · obtain ⟨x, rfl⟩ : ∃ x, c = a + 1 + x := ⟨c - (a + 1), by omega⟩
    have e1 : L * (a + 1 + x) = a * L + L + L * x := by rw [Nat.mul_add, Nat.mul_add, Nat.mul_comm L a, Nat.mul_one]
    have e2 : N * (a + 1 + x) = N * a + N + N * x := by rw [Nat.mul_add, Nat.mul_add, Nat.mul_one]
    exact ⟨fun _ => by omega, fun _ => by omega⟩
  · subst q
    have e1 : a * L = L * a := Nat.mul_comm _ _
    exact ⟨fun p => by have := key.mp (by omega); omega, fun p => by have := key.mpr (by omega); omega⟩
  · obtain ⟨x, rfl⟩ : ∃ x, a = c + 1 + x := ⟨a - (c + 1), by omega⟩
    have e1 : (c + 1 + x) * L = L * c + L + L * x := by rw [Nat.add_mul, Nat.add_mul, Nat.mul_comm c L, Nat.one_mul, Nat.mul_comm x L]
    have e2 : N * (c + 1 + x) = N * c + N + N * x := by rw [Nat.mul_add, Nat.mul_add, Nat.mul_one]
    exact ⟨fun p => by omega, fun p => by omega⟩
theorem rt_shift (r : List A) (hN : 0 < countR r (cyc r)) (j k : Nat) : rt r (j + countR r (cyc r) * k) = rt r j + cyc r * k := by
  rw [rt, rt, Nat.add_mul_mod_self_left, Nat.add_mul_div_left _ _ hN, Nat.add_mul, Nat.mul_comm k]
  omega
theorem rt_mono {r : List A} (h : ∀ a ∈ r, okA a) (hN : 0 < countR r (cyc r)) {i j : Nat} (hij : i ≤ j) : rt r i ≤ rt r j := by
  by_cases q : rt r i ≤ rt r j
  · exact q
  · have h1 := (rt_lt h hN j (rt r i)).mp (by omega)
    have h2 : ¬ i < countR r (rt r i) := fun x => by have := (rt_lt h hN i (rt r i)).mpr x; omega
    omega
theorem some_ring {r : List A} (h : ∀ a ∈ r, okA a) (hr : r ≠ []) : 0 < countR r (cyc r) := by
  cases r with
  | nil => exact absurd rfl hr
  | cons a r =>
    have h1 : 0 < ringsBefore a (cyc (a :: r)) := by
      rw [before_dvd (h a (by simp)).b (dvd_cyc (by simp))]
      exact Nat.div_pos (Nat.le_of_dvd (cyc_pos h) (dvd_cyc (by simp))) (h a (by simp)).1
    simp only [countR, List.map_cons, List.sum_cons]
    omega
/-- the length told -/
def told (r : List A) (n : Nat) : Int := D.maxI ((List.range (countR r (cyc r))).map fun i => ((rt r (i + n) : Nat) : Int) - (rt r i : Nat))
theorem told_spec {r : List A} (h : ∀ a ∈ r, okA a) (hr : r ≠ []) {n : Nat} (hn : 0 < n) : ∃ M : Nat, told r n = (M : Nat) ∧ 0 < M ∧ M ≤ n * cyc r ∧ (∀ s, n ≤ win r s M) ∧ ∃ s, win r s (M - 1) < n := by
  have hN := some_ring h hr
  have hL := cyc_pos h
  have hne : ((List.range (countR r (cyc r))).map fun i => ((rt r (i + n) : Nat) : Int) - (rt r i : Nat)) ≠ [] := by
    intro q
    have := congrArg List.length q
    simp at this
    omega
  obtain ⟨i0, hi0, e0⟩ := List.mem_map.mp (maxI_mem hne)
  have m0 := rt_mono h hN (show i0 ≤ i0 + n by omega)
  have hle : ∀ i, ((rt r (i + n) : Nat) : Int) - (rt r i : Nat) ≤ told r n := by
    intro i
    have hb := Nat.mod_lt i hN
    have h1 : ((rt r (i % countR r (cyc r) + n) : Nat) : Int) - (rt r (i % countR r (cyc r)) : Nat) ≤ told r n := maxI_le (List.mem_map.mpr ⟨_, List.mem_range.mpr hb, rfl⟩)
    have hd := Nat.div_add_mod i (countR r (cyc r))
    have h2 := rt_shift r hN (i % countR r (cyc r) + n) (i / countR r (cyc r))
    have h3 := rt_shift r hN (i % countR r (cyc r)) (i / countR r (cyc r))
    rw [show i % countR r (cyc r) + n + countR r (cyc r) * (i / countR r (cyc r)) = i + n by omega] at h2
    rw [show i % countR r (cyc r) + countR r (cyc r) * (i / countR r (cyc r)) = i by omega] at h3
    omega
  obtain ⟨M, hM⟩ : ∃ M : Nat, told r n = (M : Nat) := ⟨(told r n).toNat, by have : told r n = _ := e0.symm; omega⟩
  have e0' : ((rt r (i0 + n) : Nat) : Int) - (rt r i0 : Nat) = (M : Nat) := by rw [← hM]; exact e0
  have up : ∀ j, rt r (j + n) ≤ rt r j + n * cyc r := by
    intro j
    have h1 := rt_shift r hN j n
    have h2 := rt_mono h hN (show j + n ≤ j + countR r (cyc r) * n by have := Nat.le_mul_of_pos_left n hN; omega)
    rw [Nat.mul_comm (cyc r)] at h1
    omega
  have pos : 0 < M := by
    rcases Nat.eq_zero_or_pos M with z | z
    · exfalso
      have hz : ∀ k, rt r (0 + n * k) ≤ rt r 0 := by
        intro k
        induction k with
        | zero => simp
        | succ k ih =>
          have := hle (0 + n * k)
          rw [hM, z] at this
          rw [Nat.mul_succ, ← Nat.add_assoc]
          omega
      have h1 := hz (countR r (cyc r))
      rw [Nat.mul_comm n, rt_shift r hN 0 n] at h1
      have := Nat.mul_pos hL hn
      omega
    · exact z
  have each : ∀ s, 0 < countR r s → n ≤ win r s M := by
    intro s hs
    have h1 : rt r (countR r s - 1) < s := (rt_lt h hN _ _).mpr (by omega)
    have h2 := hle (countR r s - 1)
    rw [hM] at h2
    have h3 : countR r s - 1 + n < countR r (s + M) := (rt_lt h hN _ _).mp (by omega)
    rw [win]
    omega
  refine ⟨M, hM, pos, by have := up i0; omega, fun s => ?_, rt r i0 + 1, ?_⟩
  · rw [← win_shift h]
    refine each _ ?_
    rw [countR_shift h fun a ha => dvd_cyc ha]
    omega
  · have h1 : ¬ (i0 + n) < countR r (rt r (i0 + n)) := fun q => by have := (rt_lt h hN _ _).mpr q; omega
    have h2 : i0 < countR r (rt r i0 + 1) := (rt_lt h hN _ _).mp (by omega)
    rw [win, show rt r i0 + 1 + (M - 1) = rt r (i0 + n) by omega]
    omega
theorem heard_le6 {r : List A} (h : okR r) (t : Nat) : (heard r t).length ≤ 6 := Nat.le_trans (heard_len_le r t) h.1
theorem countR_le {r : List A} (h : okR r) : ∀ L, countR r L ≤ 6 * L
  | 0 => by rw [countR_zero h.2]; exact Nat.le_refl _
  | L + 1 => by rw [countR_succ h.2]; have := countR_le h L; have := heard_le6 h L; omega
theorem length_for_zero {r : List A} (h : okR r) (hc : cyc r ≤ 5000) : PP.d_length_for [dR r, .int 0] = .ok (.int 1) := by
  simp only [PP.d_length_for, PP.s_length_for, body_eq, List.map_cons, List.map_nil, List.replicate, List.cons_append, List.nil_append, st_Seq, st_Drop, ev_F, av_C, av_N, v_S, v_0, ev_C, R.bind_ok, check_row_R h, check_number_ok (show (0 : Int) ≤ 0 by decide) (show (0 : Int) ≤ 20 by decide), check_cycle_R h hc, wr_o, at_n, st_If, tv_Or, tv_V, ev_2, eq_i, decide_true, asB_b, if_true, st_Ret, ev_If, at_r]
theorem okD_dR (r : List A) : okD (dR r) := okD_of 2 (okN_tup fun x hx => by
  obtain ⟨a, _, rfl⟩ := List.mem_map.mp hx
  exact okN_tup fun y hy => by
    rcases List.mem_cons.mp hy with e | hy
    · rw [e]; exact okN_int
    · rw [List.mem_singleton.mp hy]; exact okN_int)
theorem eq_tnil (r : List A) : D.eq (dR r) (.tup []) = .ok (.bl r.isEmpty) := by
  rw [eq_ok (okD_dR r) okD_tnil]
  cases r <;> simp [dR, D.eqv, D.eqvL]
theorem length_for_none {n : Nat} (h1 : 0 < n) (h2 : n ≤ 20) : PP.d_length_for [dR [], .int n] = .ok .non := by
  have h : okR [] := ⟨by decide, fun _ h => nomatch h⟩
  have hn : decide (((n : Nat) : Int) = 0) = false := decide_eq_false (by omega)
  simp only [PP.d_length_for, PP.s_length_for, body_eq, List.map_cons, List.map_nil, List.replicate, List.cons_append, List.nil_append, st_Seq, st_Drop, ev_F, av_C, av_N, v_S, v_0, ev_C, R.bind_ok, check_row_R h, check_number_ok (show (0 : Int) ≤ n by omega) (show (n : Int) ≤ 20 by omega), check_cycle_R h (by decide), wr_o, at_n, st_If, tv_Or, tv_V, ev_2, eq_i, hn, asB_b, Bool.false_eq_true, if_false, ev_Tup, List.length_nil, lim0, if_true, eq_tnil, List.isEmpty_nil, st_Ret, ev_If, at_r]
theorem length_for_R {r : List A} (h : okR r) (hc : cyc r ≤ 5000) (hr : r ≠ []) {n : Nat} (h1 : 0 < n) (h2 : n ≤ 20) : PP.d_length_for [dR r, .int n] = .ok (.int (told r n)) := by
  have hN := some_ring h.2 hr
  have hL := cyc_pos h.2
  have hcl := countR_le h (cyc r)
  have hlen := ringL_len h.2 (cyc r)
  have hn : decide (((n : Nat) : Int) = 0) = false := decide_eq_false (by omega)
  have he : r.isEmpty = false := by cases r <;> simp_all
  -- the times
  obtain ⟨ρ1, e1, y4, y5, y6, y7, y8, q1⟩ := loopF_run (g := gN 4) (b := PP.b_length_for_1) (fun k : Nat => .int (k : Nat)) (fun k ρ => ∃ y4 y5 y6 y7 y8, ρ = [some (dR r), some (.int n), some (.int (cyc r : Nat)), some (.lst ((ringL r k).map fun t => .int (t : Nat))), y4, y5, y6, y7, y8])
    [some (dR r), some (.int n), some (.int (cyc r : Nat)), some (.lst []), none, none, none, none, none] ⟨_, _, _, _, _, rfl⟩ (cyc r) (by
      rintro k hk ρ ⟨y4, y5, y6, y7, y8, rfl⟩
      have hh := heard_le6 h k
      have hck := countR_le h k
      have hm : D.mul (.lst [.int (k : Nat)]) (.int ((heard r k).length : Nat)) = .ok (.lst (List.replicate (heard r k).length (.int (k : Nat)))) := by
        rw [mul_l (by omega) (by omega) (lim2 (by simp; omega)), Int.toNat_natCast]
        have : ∀ m : Nat, (List.replicate m [D.int (k : Nat)]).flatten = List.replicate m (D.int (k : Nat)) := fun m => by
          induction m with
          | zero => rfl
          | succ m ih => rw [List.replicate_succ, List.flatten_cons, ih, List.replicate_succ]; rfl
        rw [this]
      have hl : ((ringL r k).map fun t => D.int (t : Nat)).length + (List.replicate (heard r k).length (D.int (k : Nat))).length ≤ lim := by
        rw [List.length_map, List.length_replicate, ringL_len h.2]
        exact lim2 (by omega)
      have happ : ((ringL r k).map fun t => D.int (t : Nat)) ++ List.replicate (heard r k).length (D.int (k : Nat)) = (ringL r (k + 1)).map fun t => D.int (t : Nat) := by
        rw [ringL, List.map_append, List.map_replicate]
      refine ⟨_, [some (dR r), some (.int n), some (.int (cyc r : Nat)), some (.lst ((ringL r (k + 1)).map fun t => .int (t : Nat))), some (.int k), y5, y6, y7, y8], rfl, ?_, ⟨_, _, _, _, _, rfl⟩⟩
      simp only [PP.b_length_for_1, st_Ext, List.set_cons_succ, List.set_cons_zero, List.getElem?_cons_succ, List.getElem?_cons_zero, ev_2, ev_Lst, av_C, av_N, ev_F, v_S, v_0, R.bind_ok, List.length_cons, List.length_nil, Nat.zero_add, lim1, if_true, find_ringing_R h, lenN, hm, wr_o, if_pos hl, happ])
  -- the lengths
  have hget : ∀ j, j < countR r (cyc r) → (ringL r (cyc r))[j]? = some ((ringL r (cyc r)).getD j 0) := fun j hj => by
    rw [List.getD_eq_getElem?_getD, List.getElem?_eq_getElem (by omega)]; rfl
  have hidx : ∀ j, j < countR r (cyc r) → D.idx (.lst ((ringL r (cyc r)).map fun t => .int (t : Nat))) (.int (j : Nat)) = .ok (.int ((ringL r (cyc r)).getD j 0 : Nat)) := fun j hj => by
    rw [idx_l]
    refine at_nat ?_
    rw [List.getElem?_map, hget j hj]
    rfl
  obtain ⟨ρ2, en2, z4, z7, z8, q2⟩ := loopF_run (g := gT (gsC (gN 7) (gsC (gN 4) gs0))) (b := PP.b_length_for_2) (fun i : Nat => .tup [.int (i : Nat), .int ((ringL r (cyc r)).getD i 0 : Nat)]) (fun k ρ => ∃ z4 z7 z8, ρ = [some (dR r), some (.int n), some (.int (cyc r : Nat)), some (.lst ((ringL r (cyc r)).map fun t => .int (t : Nat))), z4, some (.int (countR r (cyc r) : Nat)), some (.lst ((List.range k).map fun i => .int (((rt r (i + n) : Nat) : Int) - (rt r i : Nat)))), z7, z8])
    [some (dR r), some (.int n), some (.int (cyc r : Nat)), some (.lst ((ringL r (cyc r)).map fun t => .int (t : Nat))), y4, some (.int (countR r (cyc r) : Nat)), some (.lst []), y7, y8] ⟨_, _, _, rfl⟩ (countR r (cyc r)) (by
      rintro i hi ρ ⟨z4, z7, z8, rfl⟩
      have hNi : (0 : Int) < (countR r (cyc r) : Nat) := by omega
      have hN64 : ((countR r (cyc r) : Nat) : Int) < 2 ^ 64 := by omega
      have hmod : ((i : Int) + (n : Int)) % (countR r (cyc r) : Nat) = (((i + n) % countR r (cyc r) : Nat) : Int) := by simp
      have hdiv : ((i : Int) + (n : Int)) / (countR r (cyc r) : Nat) = (((i + n) / countR r (cyc r) : Nat) : Int) := by simp
      have hi0 := hidx ((i + n) % countR r (cyc r)) (Nat.mod_lt _ hN)
      have hval : (((ringL r (cyc r)).getD ((i + n) % countR r (cyc r)) 0 : Nat) : Int) + (((i + n) / countR r (cyc r) : Nat) : Int) * (cyc r : Nat) - ((ringL r (cyc r)).getD i 0 : Nat) = ((rt r (i + n) : Nat) : Int) - (rt r i : Nat) := by
        have e3 : rt r i = (ringL r (cyc r)).getD i 0 := by rw [rt, Nat.mod_eq_of_lt hi, Nat.div_eq_of_lt hi]; simp
        rw [e3, rt]
        simp
      have hl : ((List.range i).map fun i => D.int (((rt r (i + n) : Nat) : Int) - (rt r i : Nat))).length < lim := by
        rw [List.length_map, List.length_range]
        exact Nat.lt_of_lt_of_le (show i < 1000000 by omega) (lim2 (Nat.le_refl _))
      have happ : ((List.range i).map fun i => D.int (((rt r (i + n) : Nat) : Int) - (rt r i : Nat))) ++ [D.int (((rt r (i + n) : Nat) : Int) - (rt r i : Nat))] = (List.range (i + 1)).map fun i => D.int (((rt r (i + n) : Nat) : Int) - (rt r i : Nat)) := by
        rw [List.range_succ, List.map_append]; rfl
      refine ⟨_, [some (dR r), some (.int n), some (.int (cyc r : Nat)), some (.lst ((ringL r (cyc r)).map fun t => .int (t : Nat))), some (.int ((ringL r (cyc r)).getD i 0 : Nat)), some (.int (countR r (cyc r) : Nat)), some (.lst ((List.range (i + 1)).map fun i => .int (((rt r (i + n) : Nat) : Int) - (rt r i : Nat)))), some (.int i), some (.int ((i : Int) + (n : Int)))], rfl, ?_, ⟨_, _, _, rfl⟩⟩
      simp only [PP.b_length_for_2, st_Seq, st_Set, st_App, List.set_cons_succ, List.set_cons_zero, List.getElem?_cons_succ, List.getElem?_cons_zero, ev_2, v_S, v_0, R.bind_ok, add_i, wr_o, at_n, mod_i hNi, fdiv_i hNi hN64, hmod, hdiv, hi0, mul_i (i := (((i + n) / countR r (cyc r) : Nat) : Int)) (j := (cyc r : Nat)) (.inr (by omega)), sub_i, hval, if_pos hl, happ])
  subst q1 q2
  have hmax : D.bMax [.lst ((List.range (countR r (cyc r))).map fun i => .int (((rt r (i + n) : Nat) : Int) - (rt r i : Nat)))] = .ok (.int (told r n)) := by
    refine bMax_map (f := fun i : Nat => ((rt r (i + n) : Nat) : Int) - (rt r i : Nat)) ?_
    intro q
    have := congrArg List.length q
    simp at this
    omega
  have hen : enumA [.lst ((ringL r (cyc r)).map fun t => .int (t : Nat))] = .ok ((List.range (countR r (cyc r))).map fun i : Nat => D.tup [.int (i : Nat), .int ((ringL r (cyc r)).getD i 0 : Nat)]) := by
    rw [enum_l, zip_upto, zip_range 0, List.map_map, hlen]
    rfl
  have hll : D.bLen [.lst ((ringL r (cyc r)).map fun t => .int (t : Nat))] = .ok (.int (countR r (cyc r) : Nat)) := by rw [bLen_l, List.length_map, hlen]
  simp only [PP.d_length_for, PP.s_length_for, body_eq, List.map_cons, List.map_nil, List.replicate, List.cons_append, List.nil_append, st_Seq, st_Drop, ev_F, av_C, av_N, v_S, v_0, ev_C, R.bind_ok, check_row_R h, check_number_ok (show (0 : Int) ≤ n by omega) (show (n : Int) ≤ 20 by omega), check_cycle_R h hc, wr_o, at_n, st_If, tv_Or, tv_V, ev_2, eq_i, hn, asB_b, Bool.false_eq_true, if_false, ev_Tup, List.length_nil, lim0, if_true, eq_tnil, he, st_Nx, st_Par2, find_cycle_R h.2, ev_Lst, sto_f, sto_t, Option.bind_some, outO_s, List.set_cons_succ, List.set_cons_zero, st_For, iv_A, rngA_1]
  rw [rng_nat (lim2 (by omega))]
  simp only [R.bind_ok, wr_o, e1, at_n, st_Seq, st_Par2, ev_F, av_C, av_N, v_S, v_0, hll, ev_Lst, List.length_nil, lim0, if_true, sto_f, sto_t, Option.bind_some, outO_s, List.set_cons_succ, List.set_cons_zero, st_For, iv_A, hen, en2, st_Ret, hmax]
end RT

namespace RT
/-! S14: the naive functions, the crowd's time, counting by hand -/
theorem law_count_R {r : List A} (h : ∀ a ∈ r, okA a) (t : Nat) : PP.d__law_count [dR r, .int t] = .ok (.int ((heard r t).length : Nat)) := by
  have hc : compL (gT (gsC (gN 2) (gsC (gN 3) gs0))) (tV (e2 D.eq (e2 D.mod (eV 1) (eV 2)) (eV 3))) (eC (.int 1)) [some (dR r), some (.int t), none, none] (r.map dA) = .ok ((r.filter fun a => ringsAt a t).map fun _ => .int 1) :=
    compL_ok _ _ _ _ fun a ha => ⟨_, rfl, by
      have hp : (0 : Int) < a.1 := by have := (h a ha).1; omega
      simp only [tV, ev_2, v_S, v_0, List.set_cons_succ, List.set_cons_zero, R.bind_ok, mod_i hp, eq_i, asB_b, cast_mod, ringsAt], fun _ => rfl⟩
  have hit : D.items (dR r) = .ok (r.map dA) := rfl
  simp only [PP.d__law_count, PP.s__law_count, body_eq, List.map_cons, List.map_nil, List.replicate, List.cons_append, List.nil_append, st_Ret, ev_F, av_C, av_N, ev_Comp, iv_Items, v_0, R.bind_ok, hit, wv_C, wv_0, List.set_cons_succ, List.set_cons_zero, hc, bLen_l, List.length_map, wr_o, heard_len, List.countP_eq_length_filter]
theorem gcd_loop {o0 o1 o2 o3 : Option D} : ∀ (n a b : Nat), b < n → loopW (tV (e2 D.gt (eV 5) (eC (.int 0)))) PP.b__law_cycle_b_1 n [o0, o1, o2, o3, some (.int a), some (.int b)] = .nx [o0, o1, o2, o3, some (.int (Nat.gcd a b : Nat)), some (.int (0 : Nat))]
  | 0, _, _, h => absurd h (by omega)
  | n + 1, a, b, h => by
    by_cases hb : 0 < b
    · have hb' : (0 : Int) < b := by omega
      have ih := gcd_loop n b (a % b) (by have := Nat.mod_lt a hb; omega) (o0 := o0) (o1 := o1) (o2 := o2) (o3 := o3)
      have hg : Nat.gcd b (a % b) = Nat.gcd a b := by rw [Nat.gcd_comm b, ← Nat.gcd_rec, Nat.gcd_comm]
      rw [hg] at ih
      simp only [loopW, PP.b__law_cycle_b_1, tV, ev_2, v_S, v_0, ev_C, R.bind_ok, gt_i, decide_eq_true hb', asB_b, wr_o, if_true, st_Par2, mod_i hb', sto_f, Option.bind_some, List.set_cons_succ, List.set_cons_zero, outO_s, at_n]
      rw [← Int.natCast_emod]
      exact ih
    · have : b = 0 := by omega
      subst this
      simp [loopW]
/-- all of a list's answers, by a check of each -/
theorem all_mem {α : Type} {l : List α} {p : α → Bool} (h : l.all p = true) {x : α} (hx : x ∈ l) : p x = true := List.all_eq_true.mp h x hx
theorem at_mem {xs : List D} {v : Nat} (h : v < xs.length) : ∃ d ∈ xs, D.at? xs (v : Int) = .ok d := ⟨xs[v], List.getElem_mem h, at_get h⟩
theorem naive_meet_A {a b : A} (ha : okA a) (hb : okA b) : PP.d_naive_meet [dA a, dA b] = .ok (.bl (meets a b)) := by
  have i0 : ∀ c : A, D.idx (dA c) (.int 0) = .ok (.int (c.1 : Nat)) := fun _ => rfl
  have hL : a.1 * b.1 ≤ 3600 := Nat.mul_le_mul ha.2.1 hb.2.1
  have hmul : D.mul (.int (a.1 : Nat)) (.int (b.1 : Nat)) = .ok (.int ((a.1 * b.1 : Nat) : Int)) := by rw [mul_i (.inl (by have := ha.2.1; omega))]; simp
  have hc : compL (gN 2) tYesF (eAnd (eF PP.d_does_ring (aC (eV 0) (aC (eV 2) aN))) (eF PP.d_does_ring (aC (eV 1) (aC (eV 2) aN)))) [some (dA a), some (dA b), none] ((List.range (a.1 * b.1)).map fun k => .int (k : Nat)) = .ok ((List.range (a.1 * b.1)).map fun t => .bl (ringsAt a t && ringsAt b t)) :=
    compL_all _ _ _ fun t _ => ⟨_, rfl, by
      simp only [ev_And, ev_F, av_C, av_N, v_S, v_0, List.set_cons_succ, List.set_cons_zero, R.bind_ok, does_ring_A ha, does_ring_A hb, asB_b]
      cases ringsAt a t <;> rfl⟩
  have hany := bAny_map (f := fun t => ringsAt a t && ringsAt b t) (xs := List.range (a.1 * b.1))
  have hm : (List.range (a.1 * b.1)).any (fun t => ringsAt a t && ringsAt b t) = meets a b := by
    rw [Bool.eq_iff_iff, List.any_eq_true]
    constructor
    · rintro ⟨t, -, h⟩
      rw [Bool.and_eq_true] at h
      exact meets_of h.1 h.2
    · intro h
      obtain ⟨t0, ht⟩ := first_ex ha.b hb.b hb.2.1 h
      refine ⟨t0, List.mem_range.mpr ?_, by rw [ht.1, ht.2.1]; rfl⟩
      have := ht.lt ha.b hb.b
      have := lcm_le ha.1 hb.1
      omega
  rw [hm] at hany
  simp only [PP.d_naive_meet, PP.s_naive_meet, body_eq, List.map_cons, List.map_nil, List.replicate, List.cons_append, List.nil_append, st_Seq, st_Drop, ev_F, av_C, av_N, v_S, v_0, R.bind_ok, check_two_A ha hb, wr_o, at_n, st_Ret, ev_Comp, iv_A, ev_2, ev_C, i0, hmul, rngA_1]
  rw [rng_nat (lim2 (by omega))]
  simp only [R.bind_ok, wv_C, wv_0, List.set_cons_succ, List.set_cons_zero, hc, hany, wr_o]
/-- the crowds of a cycle, and the greatest -/
def lens (r : List A) : List Nat := (List.range (cyc r)).map fun t => (heard r t).length
theorem lens_max {r : List A} (h : ∀ a ∈ r, okA a) : D.maxI ((lens r).map fun k : Nat => (k : Int)) = (crowd r : Nat) := by
  obtain ⟨t, h1, h2⟩ := crowd_time h
  refine maxI_eq (List.mem_map.mpr ⟨crowd r, List.mem_map.mpr ⟨t, List.mem_range.mpr h1, h2⟩, rfl⟩) fun x hx => ?_
  obtain ⟨k, hk, rfl⟩ := List.mem_map.mp hx
  obtain ⟨s, -, rfl⟩ := List.mem_map.mp hk
  have := heard_le r s
  show ((heard r s).length : Int) ≤ crowd r
  omega
theorem lens_ne {r : List A} (h : ∀ a ∈ r, okA a) : lens r ≠ [] := by
  intro q
  have := congrArg List.length q
  rw [lens, List.length_map, List.length_range] at this
  have := cyc_pos h
  simp at *
  omega
theorem bMax_lens {r : List A} (h : ∀ a ∈ r, okA a) : D.bMax [dN (lens r)] = .ok (.int (crowd r : Nat)) := by
  rw [dN, bMax_map (f := fun k : Nat => (k : Int)) (lens_ne h), lens_max h]
theorem naive_crowd_R {r : List A} (h : okR r) (hc : cyc r ≤ 5000) : PP.d_naive_crowd [dR r] = .ok (.int (crowd r : Nat)) := by
  have hcm : compL (gN 1) tYesF (eF D.bLen (aC (eF PP.d_find_ringing (aC (eV 0) (aC (eV 1) aN))) aN)) [some (dR r), none] ((List.range (cyc r)).map fun k => .int (k : Nat)) = .ok ((List.range (cyc r)).map fun t => .int ((heard r t).length : Nat)) :=
    compL_all _ _ _ fun t _ => ⟨_, rfl, by simp only [ev_F, av_C, av_N, v_S, v_0, List.set_cons_succ, List.set_cons_zero, R.bind_ok, find_ringing_R h, lenN]⟩
  have hl : (.lst ((List.range (cyc r)).map fun t => .int ((heard r t).length : Nat)) : D) = dN (lens r) := by rw [dN, lens, List.map_map]; rfl
  simp only [PP.d_naive_crowd, PP.s_naive_crowd, body_eq, List.map_cons, List.map_nil, List.replicate, List.cons_append, List.nil_append, st_Seq, st_Drop, ev_F, av_C, av_N, v_0, R.bind_ok, check_row_R h, check_cycle_R h hc, wr_o, at_n, st_Ret, ev_Comp, iv_A, find_cycle_R h.2, rngA_1]
  rw [rng_nat (lim2 (by omega))]
  simp only [R.bind_ok, wv_C, wv_0, List.set_cons_succ, List.set_cons_zero, hcm, hl, bMax_lens h.2, wr_o]
theorem most_one {r : List A} (h : ∀ a ∈ r, okA a) : most r 1 = (crowd r : Nat) := by
  rw [most, ← lens_max h]
  congr 2
  rw [wins, lens]
  apply List.map_congr_left
  intro t _
  rw [win, countR_succ h]
  omega
/-! the first time with the greatest crowd -/
def firstT (r : List A) : Nat := (lens r).idxOf (crowd r)
theorem firstT_spec {r : List A} (h : ∀ a ∈ r, okA a) : firstT r < cyc r ∧ (heard r (firstT r)).length = crowd r ∧ ∀ t < firstT r, (heard r t).length ≠ crowd r := by
  obtain ⟨t, h1, h2⟩ := crowd_time h
  have hmem : crowd r ∈ lens r := List.mem_map.mpr ⟨t, List.mem_range.mpr h1, h2⟩
  have hlt : (lens r).idxOf (crowd r) < (lens r).length := List.idxOf_lt_length_iff.mpr hmem
  have hlen : (lens r).length = cyc r := by rw [lens, List.length_map, List.length_range]
  have hat : ∀ (t : Nat) (ht : t < (lens r).length), (lens r)[t] = (heard r t).length := fun t ht => by simp [lens]
  refine ⟨by rw [firstT]; omega, ?_, fun t ht q => ?_⟩
  · rw [firstT, ← hat _ hlt]
    exact List.getElem_idxOf hlt
  · rw [firstT] at ht
    have hn := List.not_of_lt_findIdx (p := (· == crowd r)) (xs := lens r) (i := t) ht
    rw [hat t (by omega), q] at hn
    simp at hn
theorem index_lens {r : List A} : D.index (dN (lens r)) (.int (crowd r : Nat)) = if (lens r).contains (crowd r) then .ok (.int (firstT r : Nat)) else .stuck := by
  have hin := intsOf_map (f := fun k : Nat => (k : Int)) (lens r)
  have hco : ∀ l : List Nat, (l.map fun k : Nat => (k : Int)).contains ((crowd r : Nat) : Int) = l.contains (crowd r) := fun l => by
    rw [Bool.eq_iff_iff, List.contains_iff_mem, List.contains_iff_mem, List.mem_map]
    exact ⟨fun ⟨k, h1, h2⟩ => by rw [← Int.ofNat_inj.mp h2]; exact h1, fun h => ⟨_, h, rfl⟩⟩
  have hix : ∀ l : List Nat, (l.map fun k : Nat => (k : Int)).idxOf ((crowd r : Nat) : Int) = l.idxOf (crowd r) := fun l => by
    induction l with
    | nil => rfl
    | cons x l ih =>
      rw [List.map_cons, List.idxOf_cons, List.idxOf_cons, ih]
      have : ((x : Int) == ((crowd r : Nat) : Int)) = (x == crowd r) := by rw [Bool.eq_iff_iff, beq_iff_eq, beq_iff_eq]; exact Int.ofNat_inj
      rw [this]
  simp only [dN, D.index, hin, hco, hix, firstT]
theorem bMin_ne {xs : List Int} (h : xs ≠ []) : D.bMin [.lst (xs.map .int)] = .ok (.int (D.minI xs)) := by
  have := bMin_map (f := fun i : Int => i) h
  simpa using this
theorem crowd_time_R {r : List A} (h : okR r) : PP.d_crowd_time [dR r] = .ok (.int (firstT r : Nat)) := by
  obtain ⟨f1, f2, f3⟩ := firstT_spec h.2
  -- each group's first time
  have each : ∀ g ∈ bigR r, ∃ t : Nat, PP.d_find_joined [dR (pickR r g)] = .ok (dA (cyc (pickR r g), t)) ∧ AllAt (pickR r g) t ∧ (∀ u, AllAt (pickR r g) u → t ≤ u) := fun g hg => by
    obtain ⟨⟨-, g2, g3⟩, g4⟩ := mem_mgr.mp (List.mem_filter.mp hg).1
    have hgl : g.length ≤ r.length := (raw_item (raw_mem g2 g3)).1
    have ok : okR (pickR r g) := ⟨by rw [pickR, List.length_map]; have := h.1; omega, fun a ha => h.2 a (pick_mem g3 a ha)⟩
    obtain ⟨c, hc, e⟩ := joined_some ok g4
    refine ⟨c.2, by rw [e, ← hc.per], hc.at, fun u hu => ?_⟩
    have := (hc.iff u).mpr hu
    rw [rings_iff] at this
    have := Nat.mod_le u c.1
    omega
  have ch : ∀ g, ∃ t : Nat, g ∈ bigR r → PP.d_find_joined [dR (pickR r g)] = .ok (dA (cyc (pickR r g), t)) ∧ AllAt (pickR r g) t ∧ (∀ u, AllAt (pickR r g) u → t ≤ u) := fun g => by
    by_cases hg : g ∈ bigR r
    · obtain ⟨t, ht⟩ := each g hg
      exact ⟨t, fun _ => ht⟩
    · exact ⟨0, fun q => absurd q hg⟩
  let T : List Nat → Nat := fun g => Classical.choose (ch g)
  have hT : ∀ g ∈ bigR r, PP.d_find_joined [dR (pickR r g)] = .ok (dA (cyc (pickR r g), T g)) ∧ AllAt (pickR r g) (T g) ∧ (∀ u, AllAt (pickR r g) u → T g ≤ u) := fun g hg => Classical.choose_spec (ch g) hg
  have hcm : compL (gN 1) tYesF (e2 D.idx (eF PP.d_find_joined (aC (eF PP.d_chosen (aC (eV 0) (aC (eV 1) aN))) aN)) (eC (.int 1))) [some (dR r), none] ((bigR r).map dG) = .ok ((bigR r).map fun g => .int (T g : Nat)) :=
    compL_all _ _ _ fun g hg => ⟨_, rfl, by
      obtain ⟨⟨-, g2, g3⟩, g4⟩ := mem_mgr.mp (List.mem_filter.mp hg).1
      have i1 : ∀ c : A, D.idx (dA c) (.int 1) = .ok (.int (c.2 : Nat)) := fun _ => rfl
      simp only [ev_2, ev_F, av_C, av_N, v_S, v_0, List.set_cons_succ, List.set_cons_zero, R.bind_ok, chosen_ok g3, (hT g hg).1, ev_C, i1]⟩
  have hlen : (bigR r).length ≤ 64 := by
    have h1 : (bigR r).length ≤ (mgr r).length := List.length_filter_le _ _
    have h1' : (mgr r).length ≤ (grp r.length).length := List.length_filter_le _ _
    have h2 : (grp r.length).length ≤ (raw r.length).length := by
      rw [grp, List.length_map, grpI, List.length_mergeSort, List.length_map]; exact List.length_filter_le _ _
    rw [raw_len] at h2
    have := pow_small h.1
    omega
  -- in a row with alarms
  have main : r ≠ [] → D.minI ((bigR r).map fun g => ((T g : Nat) : Int)) = (firstT r : Nat) ∧ bigR r ≠ [] := fun hr => by
    have hcr : 0 < crowd r := by
      have hN := some_ring h.2 hr
      rw [countR_sum h.2] at hN
      have : ∃ t, 0 < (heard r t).length := by
        by_cases q : ∃ t, 0 < (heard r t).length
        · exact q
        · exfalso
          have z : ∀ l : List Nat, (l.map fun t => (heard r t).length).sum = 0 := fun l => by
            induction l with
            | nil => rfl
            | cons t l ih =>
              have : (heard r t).length = 0 := by
                rcases Nat.eq_zero_or_pos (heard r t).length with e | e
                · exact e
                · exact absurd ⟨t, e⟩ q
              rw [List.map_cons, List.sum_cons, ih, this]
          rw [z] at hN
          omega
      obtain ⟨t, ht⟩ := this
      have := heard_le r t
      omega
    have hne : heard r (firstT r) ≠ [] := by intro q; rw [q] at f2; simp at f2; omega
    have hin : heard r (firstT r) ∈ bigR r := by
      refine List.mem_filter.mpr ⟨mem_mgr.mpr ⟨⟨hne, heard_sorted r _, fun x hx => (heard_mem.mp hx).1⟩, pairwise_pick fun k hk => (heard_mem.mp hk).2⟩, decide_eq_true f2⟩
    have hall : ∀ g ∈ bigR r, firstT r ≤ T g := fun g hg => by
      obtain ⟨e1, e2⟩ := List.mem_filter.mp hg
      obtain ⟨⟨-, g2, g3⟩, -⟩ := mem_mgr.mp e1
      have hlen := of_decide_eq_true e2
      have ha := (hT g hg).2.1
      have l1 := sub_len g2 (heard_sorted r (T g)) (fun x hx => (heard_mem.mp hx).1) fun k hk => heard_mem.mpr ⟨g3 k hk, ha _ (List.mem_map.mpr ⟨k, hk, rfl⟩)⟩
      have l2 := heard_le r (T g)
      by_cases q : firstT r ≤ T g
      · exact q
      · exact absurd (show (heard r (T g)).length = crowd r by omega) (f3 (T g) (by omega))
    refine ⟨minI_eq (List.mem_map.mpr ⟨_, hin, ?_⟩) fun x hx => ?_, List.ne_nil_of_mem hin⟩
    · have h1 := hall _ hin
      have h2 := (hT _ hin).2.2 (firstT r) fun a ha => by
        obtain ⟨k, hk, rfl⟩ := List.mem_map.mp ha
        exact (heard_mem.mp hk).2
      show ((T (heard r (firstT r)) : Nat) : Int) = firstT r
      omega
    · obtain ⟨g, hg, rfl⟩ := List.mem_map.mp hx
      have := hall g hg
      show ((firstT r : Nat) : Int) ≤ T g
      omega
  have fin : ∀ b : Bool, r.isEmpty = b → (D.add (.lst ((bigR r).map fun g => .int (T g : Nat))) (.lst (if b = true then [.int 0] else []))).bind (fun d => D.bMin [d]) = .ok (.int (firstT r : Nat)) := fun b hb => by
    cases b with
    | false =>
      have hr : r ≠ [] := by intro q; rw [q] at hb; cases hb
      obtain ⟨m1, m2⟩ := main hr
      rw [if_neg (by decide), add_ll (by rw [List.length_map]; exact lim2 (by simp; omega)), List.append_nil, R.bind_ok, bMin_map (f := fun g => ((T g : Nat) : Int)) m2, m1]
    | true =>
      have hr : r = [] := by simpa using hb
      subst hr
      have hb0 : bigR [] = [] := by
        rw [List.eq_nil_iff_forall_not_mem]
        intro g hg
        obtain ⟨⟨h1, -, h3⟩, -⟩ := mem_mgr.mp (List.mem_filter.mp hg).1
        cases g with
        | nil => exact h1 rfl
        | cons x g => exact absurd (h3 x (by simp)) (by simp)
      have hf : firstT [] = 0 := by have : firstT [] < cyc [] := f1; have e : cyc ([] : List A) = 1 := rfl; omega
      rw [hb0, if_pos rfl, List.map_nil, add_ll (by exact lim2 (by decide)), hf]
      rfl
  have hfin := fin _ rfl
  have hfg := find_groups_R h
  have hmb : D.mulB (.lst [.int 0]) (.bl r.isEmpty) = .ok (.lst (if r.isEmpty = true then [.int 0] else [])) := rfl
  simp only [PP.d_crowd_time, PP.s_crowd_time, body_eq, List.map_cons, List.map_nil, List.replicate, List.cons_append, List.nil_append, st_Seq, st_Drop, ev_F, av_C, av_N, v_0, R.bind_ok, check_row_R h, wr_o, at_n, st_Ret, ev_2, ev_Comp, iv_Items, hfg, items_l, wv_C, wv_0, List.set_cons_succ, List.set_cons_zero, hcm, ev_Lst, ev_C, List.length_cons, List.length_nil, Nat.zero_add, lim1, lim0, if_true, ev_Tup, eq_tnil, hmb]
  cases ha : D.add (.lst ((bigR r).map fun g => .int (T g : Nat))) (.lst (if r.isEmpty = true then [.int 0] else [])) with
  | ok d =>
    rw [ha] at hfin
    simp only [R.bind_ok] at hfin ⊢
    rw [hfin]
    rfl
  | err c => rw [ha] at hfin; cases hfin
  | stuck => rw [ha] at hfin; cases hfin
end RT

namespace RT
/-! S15: what the laws with refusals share -/
theorem cycle_b_R {r : List A} (h : ∀ a ∈ r, okA a) : PP.d__law_cycle_b [dR r] = .ok (.int (cyc r : Nat)) := by
  have key := loopF_fold (g := gT (gsC (gN 2) (gsC (gN 3) gs0))) (b := PP.b__law_cycle_b_2) dA
    (fun c ρ => ∃ x y z u, ρ = [some (dR r), some (.int (c : Nat)), x, y, z, u]) (fun c a => Nat.lcm c a.1) r 1 [some (dR r), some (.int 1), none, none, none, none] ⟨_, _, _, _, rfl⟩ (by
      rintro a ha c ρ ⟨x, y, z, u, rfl⟩
      obtain ⟨h1, h2, h3⟩ := h a ha
      refine ⟨_, [some (dR r), some (.int (Nat.lcm c a.1 : Nat)), some (.int a.1), some (.int a.2), some (.int (Nat.gcd c a.1 : Nat)), some (.int (0 : Nat))], rfl, ?_, ⟨_, _, _, _, rfl⟩⟩
      have g1 : (0 : Int) < (Nat.gcd c a.1 : Nat) := by have := Nat.gcd_pos_of_pos_right c h1; omega
      have g2 : ((Nat.gcd c a.1 : Nat) : Int) < 2 ^ 64 := by have := Nat.le_of_dvd h1 (Nat.gcd_dvd_right c a.1); omega
      have e := gcd_loop (o0 := some (dR r)) (o1 := some (.int (c : Nat))) (o2 := some (.int (a.1 : Nat))) (o3 := some (.int (a.2 : Nat))) 1000000 c a.1 (by omega)
      have hl : ((c : Int) / (Nat.gcd c a.1 : Nat) * a.1) = (Nat.lcm c a.1 : Nat) := by rw [← lcm_div]; simp
      simp only [PP.b__law_cycle_b_2, st_Seq, st_Par2, v_S, v_0, wr_o, sto_f, Option.bind_some, outO_s, List.set_cons_succ, List.set_cons_zero, at_n, st_While, show fuel = 1000000 from rfl]
      rw [e]
      simp only [at_n, st_Seq, st_Set, ev_2, v_S, v_0, R.bind_ok, fdiv_i g1 g2, mul_i (i := (c : Int) / (Nat.gcd c a.1 : Nat)) (j := a.1) (.inr (by omega)), hl, wr_o, List.set_cons_succ, List.set_cons_zero])
  obtain ⟨ρ', e1, x, y, z, u, e2⟩ := key
  subst e2
  simp only [PP.d__law_cycle_b, PP.s__law_cycle_b, body_eq, List.map_cons, List.map_nil, List.replicate, List.cons_append, List.nil_append, st_Seq, st_Set, ev_C, wr_o, List.set_cons_succ, List.set_cons_zero, at_n, st_For, iv_Items, v_0, R.bind_ok]
  rw [dR, items_t, wr_o]
  rw [dR] at e1
  rw [e1]
  simp [cyc]
def badR : List D := [.non, .lst [], .lst [.tup [.int 4, .int 1]], .tup [.tup [.int 4, .int 4]], .tup [.tup [.int 0, .int 0]], .tup [.tup [.int 61, .int 0]], .tup [.tup [.int 4, .int (-1)]], .tup [.tup [.bl true, .int 0]], .tup [.tup [.int 4]],
  .tup [.tup [.int 4, .int 1], .tup [.int 4, .int 1], .tup [.int 4, .int 1], .tup [.int 4, .int 1], .tup [.int 4, .int 1], .tup [.int 4, .int 1], .tup [.int 4, .int 1]], .tup [.int 4, .int 1]]
theorem badrow {ns : List Int} (hn : ns.length ≤ 63) (k : Nat) (hk : k < 1000000 := by omega) : ∃ d ∈ badR, PP.d__law_badrow [.scr ns, .int (k : Nat)] = .ok d := by
  obtain ⟨v, hv, ev⟩ := drawn_ok hn k 11 (by decide) hk
  have ev : PP.d__law_drawn [.scr ns, .int (k : Nat), .int 11] = .ok (.int v) := ev
  obtain ⟨d, hd, e⟩ := at_mem (xs := badR) (v := v) hv
  refine ⟨d, hd, ?_⟩
  have e : D.at? badR (v : Int) = .ok d := e
  have hm : D.mul (.tup [.tup [.int 4, .int 1]]) (.int 7) = .ok (.tup [.tup [.int 4, .int 1], .tup [.int 4, .int 1], .tup [.int 4, .int 1], .tup [.int 4, .int 1], .tup [.int 4, .int 1], .tup [.int 4, .int 1], .tup [.int 4, .int 1]]) := rfl
  have ha : ∀ a b c d e f g h i j k : D, D.add (.lst [a, b, c, d, e, f, g, h]) (.lst [i, j, k]) = .ok (.lst [a, b, c, d, e, f, g, h, i, j, k]) := fun a b c d e f g h i j k => by rw [add_ll (lim2 (by simp))]; rfl
  unfold badR at e
  simp only [PP.d__law_badrow, PP.s__law_badrow, body_eq, List.map_cons, List.map_nil, List.replicate, List.cons_append, List.nil_append, List.append_nil, R.bind_ok, R.bind_err, v_0, v_S, ev_C, ev_1, ev_2, av_N, av_C, ev_F, ev_None, ev_NotNone, ev_And, ev_Or, ev_Not, ev_If, ev_Chain, ev_Comp, ev_Tup, ev_Lst, tv_V, tv_And, tv_Or, tv_Not, tv_Yes, iv_Items, iv_A, gv_N, gv_T, gv_0, gv_C, Option.bind_some, wv_0, wv_C, at_n, at_r, at_e, wr_o, wr_e, st_Nx, st_Seq, st_Set, st_Asg, st_Drop, st_Ret, st_If, st_Raise, st_For, st_While, st_Par2, st_Par3, sto_f, sto_t, outO_s, List.set_cons_succ, List.set_cons_zero, asB_b, if_true, if_false, Bool.false_eq_true, Bool.not_true, Bool.not_false, items_l, items_t, bLen_l, bLen_t, bLen_s, bTuple_l, bTuple_t, bList_l, bList_t, idx_t, idx_l, at_0, at_1, rngA_1, rngA_2, isNone_n, isNone_i, isNone_t, isNone_l, lim0, lim1, lim2', lim3, List.length_cons, List.length_nil, Nat.reduceAdd, Nat.zero_add, isB_b, isNotB_b, ne_self okD_bl, eq_self okD_bl, decide_true, decide_false, ev_1, neg_i, hm, lim2 (n := 8), ha, ev, e]
def isE (c : Str) : R D → Bool
  | .err d => decide (d = c)
  | _ => false
theorem of_isE {x : R D} {c : Str} (h : isE c x = true) : x = .err c := by
  unfold isE at h
  split at h
  · rw [of_decide_eq_true h]
  · cases h
/-- the caught error's slot -/
theorem isE_at {i a : Nat} {c : Str} {tab : List (Str × Bool)} {t : Bool} {ρ : Env} (h : ρ[i]? = some (some (.exc c a))) (ht : tab.lookup c = some t) : eIsE i c a tab ρ = .ok (.bl t) := by
  unfold eIsE
  rw [h]
  simp [ht]
/-- a row that is none is refused, whatever else is given -/
theorem badR_check {d : D} (h : d ∈ badR) : PP.d_check_row [d] = .err "InvalidRow" := of_isE (all_mem (l := badR) (p := fun d => isE "InvalidRow" (PP.d_check_row [d])) (by decide +kernel) h)
end RT

namespace RT
/-! S16: step by step; bounds of cycles; groups by looking at all times -/
theorem body_rt {n : Nat} {s : SF} {ds : List D} {d : D} (h : s (ds.map some ++ List.replicate n none) = .rt d) : body n s ds = .ok d := by rw [body_eq, h]
theorem body_nx {n : Nat} {s : SF} {ds : List D} {ρ : Env} (h : s (ds.map some ++ List.replicate n none) = .nx ρ) : body n s ds = .ok .non := by rw [body_eq, h]
theorem body_er {n : Nat} {s : SF} {ds : List D} {c : Str} {ρ : Env} (h : s (ds.map some ++ List.replicate n none) = .er c ρ) : body n s ds = .err c := by rw [body_eq, h]
theorem seq_to {s u : SF} {ρ ρ' : Env} {o : Out} (h : s ρ = .nx ρ') (k : u ρ' = o) : sSeq s u ρ = o := by rw [st_Seq, h]; exact k
theorem limD {n : Nat} : (n ≤ lim) = (n ≤ 16777216) := id rfl
theorem addD {xs ys : List D} : D.add (.lst xs) (.lst ys) = if xs.length + ys.length ≤ lim then .ok (.lst (xs ++ ys)) else .stuck := id rfl
theorem addT {xs ys : List D} : D.add (.tup xs) (.tup ys) = if xs.length + ys.length ≤ lim then .ok (.tup (xs ++ ys)) else .stuck := id rfl
theorem add_n (a b : Nat) : D.add (.int (a : Nat)) (.int (b : Nat)) = .ok (.int ((a + b : Nat) : Int)) := rfl
theorem one_add (v : Nat) : D.add (.int 1) (.int (v : Nat)) = .ok (.int ((v + 1 : Nat) : Int)) := by rw [add_i, show (1 : Int) + v = ((v + 1 : Nat) : Int) by omega]
theorem add_one' (v : Nat) : D.add (.int (v : Nat)) (.int 1) = .ok (.int ((v + 1 : Nat) : Int)) := rfl
theorem mul_n {a b : Nat} (h : a < 2 ^ 64) : D.mul (.int (a : Nat)) (.int (b : Nat)) = .ok (.int ((a * b : Nat) : Int)) := by
  rw [mul_i (.inl ⟨by omega, by omega⟩)]
  simp
theorem upto_n (s n : Nat) : upto (s : Int) n = (List.range n).map fun k => D.int ((s + k : Nat) : Int) := by rw [upto_map]; simp
theorem ne_tnilR (r : List A) : D.ne (dR r) (.tup []) = .ok (.bl (!r.isEmpty)) := by
  rw [ne_ok (okD_dR r) okD_tnil]
  cases r <;> simp [dR, D.eqv, D.eqvL]
/-- cycles of rows with small periods -/
theorem cyc_le {p : Nat} : ∀ {r : List A} {c : Nat}, 0 < c → (∀ a ∈ r, 1 ≤ a.1 ∧ a.1 ≤ p) → r.foldl (fun c a => Nat.lcm c a.1) c ≤ c * p ^ r.length
  | [], c, _, _ => by simp
  | a :: r, c, hc, h => by
    obtain ⟨h1, h2⟩ := h a (by simp)
    have ih := cyc_le (p := p) (r := r) (c := Nat.lcm c a.1) (Nat.lcm_pos hc h1) fun b hb => h b (by simp [hb])
    rw [List.foldl_cons, List.length_cons]
    refine Nat.le_trans ih ?_
    have : Nat.lcm c a.1 ≤ c * p := Nat.le_trans (lcm_le hc h1) (Nat.mul_le_mul_left c h2)
    calc Nat.lcm c a.1 * p ^ r.length ≤ c * p * p ^ r.length := Nat.mul_le_mul_right _ this
      _ = c * p ^ (r.length + 1) := by rw [Nat.pow_succ, Nat.mul_assoc, Nat.mul_comm p]
theorem cyc_pow {p n : Nat} {r : List A} (h : ∀ a ∈ r, 1 ≤ a.1 ∧ a.1 ≤ p) (hp : 0 < p) (hl : r.length ≤ n) : cyc r ≤ p ^ n := by
  have := cyc_le (c := 1) (by decide) h
  rw [Nat.one_mul] at this
  exact Nat.le_trans this (Nat.pow_le_pow_right hp hl)
/-! groups -/
theorem castL_inj {a b : List Nat} (h : castL a = castL b) : a = b := by rw [← toNat_cast a, ← toNat_cast b, h]
theorem dG_N (g : List Nat) : D.bTuple [dN g] = .ok (dG g) := rfl
theorem mem_bigR {r : List A} {g : List Nat} : g ∈ bigR r ↔ g ∈ mgr r ∧ g.length = crowd r := by
  rw [bigR, List.mem_filter, decide_eq_true_eq]
theorem same_of_sub : ∀ {g m : List Nat}, g.Pairwise (· < ·) → m.Pairwise (· < ·) → (∀ x ∈ g, x ∈ m) → m.length ≤ g.length → g = m := fun {g m} hg hm h hl => by
  refine sorted_ext hg hm fun x => ⟨h x, fun hx => ?_⟩
  by_cases hxg : x ∈ g
  · exact hxg
  · have nd : (x :: g).Nodup := List.nodup_cons.mpr ⟨hxg, hg.imp fun h => by omega⟩
    have := nodup_le (x :: g) m nd (fun y hy => (List.mem_cons.mp hy).elim (fun e => e ▸ hx) (h y))
    rw [List.length_cons] at this
    omega
/-- the greatest groups are those that are heard -/
theorem big_heard {r : List A} (h : ∀ a ∈ r, okA a) {g : List Nat} : g ∈ bigR r ↔ g ≠ [] ∧ ∃ t, t < cyc r ∧ heard r t = g ∧ g.length = crowd r := by
  rw [mem_bigR]
  constructor
  · rintro ⟨hg, hl⟩
    obtain ⟨⟨g1, g2, g3⟩, g4⟩ := mem_mgr.mp hg
    obtain ⟨t0, h0, h1⟩ := row_join' (r := pickR r g) (fun a ha => h a (pick_mem g3 a ha)) g4
    have hd := pickR_cyc h g3
    refine ⟨g1, t0, Nat.lt_of_lt_of_le h0 (Nat.le_of_dvd (cyc_pos h) hd), ?_, hl⟩
    refine (same_of_sub g2 (heard_sorted r t0) (fun x hx => heard_mem.mpr ⟨g3 x hx, h1 _ (List.mem_map.mpr ⟨x, hx, rfl⟩)⟩) ?_).symm
    rw [hl]; exact heard_le r t0
  · rintro ⟨hne, t, ht, e, hl⟩
    refine ⟨mem_mgr.mpr ⟨⟨hne, ?_, fun x hx => ?_⟩, ?_⟩, hl⟩
    · rw [← e]; exact heard_sorted r t
    · rw [← e] at hx; exact (heard_mem.mp hx).1
    · exact pairwise_pick (t := t) fun k hk => by rw [← e] at hk; exact (heard_mem.mp hk).2
theorem raw_nodup : ∀ n, (raw n).Nodup
  | 0 => by simp [raw]
  | n + 1 => by
    have ih := raw_nodup n
    rw [raw]
    refine List.nodup_append.mpr ⟨ih, ?_, fun a ha b hb e => ?_⟩
    · rw [List.nodup_iff_pairwise_ne, List.pairwise_map]
      exact ih.imp fun h e => h (List.append_cancel_right e)
    · obtain ⟨g, hg, rfl⟩ := List.mem_map.mp hb
      subst e
      have := (raw_item ha).2.2 n (by simp)
      omega
theorem grpI_nodup (n : Nat) : (grpI n).Nodup := by
  rw [grpI, (List.mergeSort_perm _ _).nodup_iff, List.nodup_iff_pairwise_ne, List.pairwise_map]
  exact ((raw_nodup n).sublist List.filter_sublist).imp fun h e => h (castL_inj e)
theorem grp_castL (n : Nat) : (grp n).map castL = grpI n := by
  rw [grp, List.map_map]
  conv => rhs; rw [← List.map_id (grpI n)]
  apply List.map_congr_left
  intro l hl
  obtain ⟨g, -, -, rfl⟩ := grpI_mem.mp hl
  simp [toNat_cast]
theorem bigR_asc (r : List A) : ((bigR r).map castL).Pairwise (· ≤ ·) ∧ ((bigR r).map castL).Nodup := by
  have sub : ((bigR r).map castL).Sublist (grpI r.length) := by
    rw [← grp_castL]
    exact (List.filter_sublist.trans List.filter_sublist).map castL
  exact ⟨(upL_sorted _).sublist sub, (grpI_nodup _).sublist sub⟩
/-- ascending lists of tuples with the same members -/
theorem ascL_one {a b : List (List Int)} (ha : a.Pairwise (· ≤ ·)) (hb : b.Pairwise (· ≤ ·)) (na : a.Nodup) (nb : b.Nodup) (h : ∀ k, k ∈ a ↔ k ∈ b) : a = b :=
  sortedL_one ((List.perm_ext_iff_of_nodup na nb).mpr h) ha hb
/-- sorted(set(..)) of groups -/
theorem sortSet_G {gs : List (List Nat)} {big : List (List Nat)} {d n : Nat} (hn : n ≤ 5) (h1 : ∀ g ∈ gs, g ≠ [] ∧ g.length = d ∧ g.Pairwise (· < ·) ∧ ∀ x ∈ g, x < n) (hp : (big.map castL).Pairwise (· ≤ ·)) (hnd : (big.map castL).Nodup) (hm : ∀ g, g ∈ big ↔ g ∈ gs) :
    D.bSortSet [.lst (gs.map dG)] = .ok (.lst (big.map dG)) := by
  have e1 : gs.map dG = (gs.map castL).map D.tupI := by rw [List.map_map]; exact List.map_congr_left fun g _ => dG_eq g
  have e2 : big.map dG = (big.map castL).map D.tupI := by rw [List.map_map]; exact List.map_congr_left fun g _ => dG_eq g
  by_cases hz : gs = []
  · subst hz
    have : big = [] := List.eq_nil_iff_forall_not_mem.mpr fun g hg => by have := (hm g).mp hg; simp at this
    subst this
    simp [D.bSortSet, D.intsOf, D.once]
  · obtain ⟨g0, gs', rfl⟩ := List.exists_cons_of_ne_nil hz
    have no : D.intsOf ((g0 :: gs').map dG) = none := rfl
    have ne : ∀ l ∈ (g0 :: gs').map castL, l ≠ [] := fun l hl => by
      obtain ⟨g, hg, rfl⟩ := List.mem_map.mp hl
      have := (h1 g hg).1
      simp only [castL, ne_eq, List.map_eq_nil_iff]
      exact this
    have ts := tupsOf_map ne
    have c1 : (D.once ((g0 :: gs').map castL)).length < 63 := by
      have := nodup_le _ ((raw n).map castL) (nodup_once ((g0 :: gs').map castL)) fun l hl => by
        obtain ⟨g, hg, rfl⟩ := List.mem_map.mp (mem_once.mp hl)
        exact List.mem_map.mpr ⟨g, raw_mem (h1 g hg).2.2.1 (h1 g hg).2.2.2, rfl⟩
      rw [List.length_map, raw_len] at this
      have : 2 ^ n ≤ 2 ^ 5 := Nat.pow_le_pow_right (by decide) hn
      omega
    have c2 : (((g0 :: gs').map castL).all fun l => D.fewI l && decide (l.length = (((g0 :: gs').map castL).headD []).length)) = true := by
      rw [List.all_eq_true]
      intro l hl
      obtain ⟨g, hg, rfl⟩ := List.mem_map.mp hl
      rw [Bool.and_eq_true, decide_eq_true_eq]
      refine ⟨List.all_eq_true.mpr fun i hi => ?_, ?_⟩
      · obtain ⟨k, hk, rfl⟩ := List.mem_map.mp hi
        have := (h1 g hg).2.2.2 k hk
        simp; omega
      · show (castL g).length = (castL g0).length
        simp only [castL, List.length_map]
        rw [(h1 g hg).2.1, (h1 g0 (by simp)).2.1]
    have res : (D.once ((g0 :: gs').map castL)).mergeSort D.upL = big.map castL := by
      refine ascL_one (upL_sorted _) hp ((List.mergeSort_perm _ _).nodup_iff.mpr (nodup_once _)) hnd fun l => ?_
      rw [(List.mergeSort_perm _ _).mem_iff, mem_once, List.mem_map, List.mem_map]
      exact ⟨fun ⟨g, hg, e⟩ => ⟨g, (hm g).mpr hg, e⟩, fun ⟨g, hg, e⟩ => ⟨g, (hm g).mp hg, e⟩⟩
    rw [e2, ← res]
    rw [e1] at no ⊢
    simp only [D.bSortSet, no, ts, c1, c2, decide_true, Bool.and_self, if_true]
end RT

namespace RT
/-! S17: alarms that are put off -/
/-- it rings at t, put off n times by dl -/
def lateT (a : A) (dl n t : Nat) : Bool := (List.range (n + 1)).any fun k => decide (k * dl ≤ t) && ringsAt a (t - k * dl)
theorem lateT_iff {a : A} {dl n t : Nat} : lateT a dl n t = true ↔ ∃ o, o ≤ n ∧ o * dl ≤ t ∧ ringsAt a (t - o * dl) = true := by
  rw [lateT, List.any_eq_true]
  constructor
  · rintro ⟨k, hk, h⟩
    rw [Bool.and_eq_true, decide_eq_true_eq] at h
    exact ⟨k, by have := List.mem_range.mp hk; omega, h.1, h.2⟩
  · rintro ⟨o, h1, h2, h3⟩
    exact ⟨o, List.mem_range.mpr (by omega), by rw [Bool.and_eq_true, decide_eq_true_eq]; exact ⟨h2, h3⟩⟩
/-- they meet, the first put off -/
def meetsD (a b : A) (dl n : Nat) : Bool := (List.range (n + 1)).any fun k => decide (((a.2 : Int) + ((k * dl : Nat) : Int) - b.2) % (Nat.gcd a.1 b.1 : Nat) = 0)
theorem meetsD_iff {a b : A} {dl n : Nat} : meetsD a b dl n = true ↔ ∃ o, o ≤ n ∧ ((Nat.gcd a.1 b.1 : Nat) : Int) ∣ (a.2 : Int) + ((o * dl : Nat) : Int) - b.2 := by
  rw [meetsD, List.any_eq_true]
  constructor
  · rintro ⟨k, hk, h⟩
    exact ⟨k, by have := List.mem_range.mp hk; omega, Int.dvd_of_emod_eq_zero (of_decide_eq_true h)⟩
  · rintro ⟨o, h1, h2⟩
    exact ⟨o, List.mem_range.mpr (by omega), decide_eq_true (Int.emod_eq_zero_of_dvd h2)⟩
/-- from any time on, within the other's period of steps -/
theorem meets_step {p s : Nat} {b : A} (hp : 1 ≤ p) (hb : okB b) (h : ((Nat.gcd p b.1 : Nat) : Int) ∣ (s : Int) - b.2) : ∃ j, j < b.1 ∧ ringsAt b (s + p * j) = true := by
  have hm : meets (p, s % p) b = true := by
    rw [meets_iff]
    show ((Nat.gcd p b.1 : Nat) : Int) ∣ ((s % p : Nat) : Int) - b.2
    have h1 : ((Nat.gcd p b.1 : Nat) : Int) ∣ (p : Int) := Int.natCast_dvd_natCast.mpr (Nat.gcd_dvd_left p b.1)
    have h2 : ((s % p : Nat) : Int) - b.2 = ((s : Int) - b.2) - p * ((s / p : Nat) : Int) := by
      have := Nat.mod_add_div s p
      have h3 : ((s % p : Nat) : Int) + ((p * (s / p) : Nat) : Int) = s := by rw [← Int.natCast_add, this]
      rw [Int.natCast_mul] at h3
      omega
    rw [h2]
    exact Int.dvd_sub h (Int.dvd_trans h1 (Int.dvd_mul_right _ _))
  obtain ⟨j, hj, hr⟩ := meets_ex hb (show s % p < p from Nat.mod_lt _ hp) hm
  have hj : j < b.1 := hj
  have hr : ringsAt b (s % p + p * j) = true := hr
  have hb1 := hb.1
  refine ⟨(j + (b.1 - (s / p) % b.1)) % b.1, Nat.mod_lt _ hb1, ?_⟩
  rw [rings_iff] at hr ⊢
  have hq := Nat.mod_lt (s / p) hb1
  generalize hqq : (s / p) % b.1 = q at hq
  have e1 : s + p * ((j + (b.1 - q)) % b.1) = s % p + p * (s / p + (j + (b.1 - q)) % b.1) := by
    have := Nat.mod_add_div s p
    rw [Nat.mul_add]
    omega
  have e2 : (s / p + (j + (b.1 - q)) % b.1) % b.1 = j % b.1 := by
    rw [Nat.add_mod, hqq, Nat.mod_mod, ← Nat.add_mod_mod, Nat.mod_mod, Nat.add_mod_mod]
    rw [show q + (j + (b.1 - q)) = j + b.1 by omega, Nat.add_mod_right]
  rw [e1, Nat.add_mod, Nat.mul_mod, e2, ← Nat.mul_mod, ← Nat.add_mod]
  exact hr
theorem meets_step' {p s t : Nat} {b : A} (h : ringsAt b (s + p * t) = true) : ((Nat.gcd p b.1 : Nat) : Int) ∣ (s : Int) - b.2 := by
  have h1 : ((Nat.gcd p b.1 : Nat) : Int) ∣ (b.1 : Int) := Int.natCast_dvd_natCast.mpr (Nat.gcd_dvd_right p b.1)
  have h2 : ((Nat.gcd p b.1 : Nat) : Int) ∣ (p : Int) := Int.natCast_dvd_natCast.mpr (Nat.gcd_dvd_left p b.1)
  have h3 := ring_dvd h
  have e : (s : Int) - b.2 = (((s + p * t : Nat) : Int) - b.2) - p * (t : Int) := by rw [Int.natCast_add, Int.natCast_mul]; omega
  rw [e]
  exact Int.dvd_sub (Int.dvd_trans h1 h3) (Int.dvd_trans h2 (Int.dvd_mul_right _ _))
theorem do_meet_b_A {a b : A} (ha : okA a) (hb : okA b) {dl n : Nat} (hd : dl ≤ 30) (hn : n ≤ 5) : PP.d_do_meet_b [dA a, dA b, .int dl, .int n] = .ok (.bl (meetsD a b dl n)) := by
  have hg : 0 < Nat.gcd a.1 b.1 := Nat.gcd_pos_of_pos_left _ ha.1
  have hgi : (0 : Int) < (Nat.gcd a.1 b.1 : Nat) := by omega
  have hdv := divisor_ok (a := a.1) (b := b.1) (by have := hb.2.1; omega)
  have i0 : ∀ c : A, D.idx (dA c) (.int 0) = .ok (.int (c.1 : Nat)) := fun _ => rfl
  have i1 : ∀ c : A, D.idx (dA c) (.int 1) = .ok (.int (c.2 : Nat)) := fun _ => rfl
  have hr : rng 0 ((n + 1 : Nat) : Int) = .ok ((List.range (n + 1)).map fun k => .int (k : Nat)) := rng_nat (lim2 (by omega))
  have cm : compL (gN 5) tYesF (e2 D.eq (e2 D.mod (e2 D.sub (e2 D.add (e2 D.idx (eV 0) (eC (.int 1))) (e2 D.mul (eV 5) (eV 2))) (e2 D.idx (eV 1) (eC (.int 1)))) (eV 4)) (eC (.int 0))) [some (dA a), some (dA b), some (.int (dl : Nat)), some (.int (n : Nat)), some (.int (Nat.gcd a.1 b.1 : Nat)), none] ((List.range (n + 1)).map fun k => .int (k : Nat)) =
      .ok ((List.range (n + 1)).map fun k => .bl (decide (((a.2 : Int) + ((k * dl : Nat) : Int) - b.2) % (Nat.gcd a.1 b.1 : Nat) = 0))) :=
    compL_all _ _ _ fun k hk => ⟨_, rfl, by
      have hk' := List.mem_range.mp hk
      have hm : D.mul (.int (k : Nat)) (.int (dl : Nat)) = .ok (.int ((k * dl : Nat) : Int)) := mul_n (by omega)
      simp only [body_eq, List.map_cons, List.map_nil, List.replicate, List.cons_append, List.nil_append, List.append_nil, R.bind_ok, R.bind_err, v_0, v_S, ev_C, ev_1, ev_2, av_N, av_C, ev_F, ev_None, ev_NotNone, ev_And, ev_Or, ev_Not, ev_If, ev_Chain, ev_Comp, ev_Tup, ev_Lst, tv_V, tv_And, tv_Or, tv_Not, tv_Yes, iv_Items, iv_A, gv_N, gv_T, gv_0, gv_C, Option.bind_some, wv_0, wv_C, at_n, at_r, at_e, wr_o, wr_e, st_Nx, st_Seq, st_Set, st_Asg, st_Drop, st_Ret, st_If, st_Raise, st_For, st_While, st_Par2, st_Par3, sto_f, sto_t, outO_s, List.set_cons_succ, List.set_cons_zero, asB_b, if_true, if_false, Bool.false_eq_true, Bool.not_true, Bool.not_false, items_l, items_t, bLen_l, bLen_t, bLen_s, bTuple_l, bTuple_t, bList_l, bList_t, idx_t, idx_l, at_0, at_1, rngA_1, rngA_2, isNone_n, isNone_i, isNone_t, isNone_l, lim0, lim1, lim2', lim3, List.length_cons, List.length_nil, Nat.reduceAdd, Nat.zero_add, isB_b, isNotB_b, ne_self okD_bl, eq_self okD_bl, decide_true, decide_false, i1, hm, add_i, sub_i, mod_i hgi, eq_i]⟩
  have hb := bAny_map (f := fun k : Nat => decide (((a.2 : Int) + ((k * dl : Nat) : Int) - b.2) % (Nat.gcd a.1 b.1 : Nat) = 0)) (xs := List.range (n + 1))
  simp only [PP.d_do_meet_b, PP.s_do_meet_b, body_eq, List.map_cons, List.map_nil, List.replicate, List.cons_append, List.nil_append, List.append_nil, R.bind_ok, R.bind_err, v_0, v_S, ev_C, ev_1, ev_2, av_N, av_C, ev_F, ev_None, ev_NotNone, ev_And, ev_Or, ev_Not, ev_If, ev_Chain, ev_Comp, ev_Tup, ev_Lst, tv_V, tv_And, tv_Or, tv_Not, tv_Yes, iv_Items, iv_A, gv_N, gv_T, gv_0, gv_C, Option.bind_some, wv_0, wv_C, at_n, at_r, at_e, wr_o, wr_e, st_Nx, st_Seq, st_Set, st_Asg, st_Drop, st_Ret, st_If, st_Raise, st_For, st_While, st_Par2, st_Par3, sto_f, sto_t, outO_s, List.set_cons_succ, List.set_cons_zero, asB_b, if_true, if_false, Bool.false_eq_true, Bool.not_true, Bool.not_false, items_l, items_t, bLen_l, bLen_t, bLen_s, bTuple_l, bTuple_t, bList_l, bList_t, idx_t, idx_l, at_0, at_1, rngA_1, rngA_2, isNone_n, isNone_i, isNone_t, isNone_l, lim0, lim1, lim2', lim3, List.length_cons, List.length_nil, Nat.reduceAdd, Nat.zero_add, isB_b, isNotB_b, ne_self okD_bl, eq_self okD_bl, decide_true, decide_false, i0, hdv, add_one', hr, cm, hb]
  rfl
theorem check_delay {dl : Nat} (h1 : 1 ≤ dl) (h2 : dl ≤ 30) : PP.d_check_number [.int (dl : Nat), .int 1, .int 30] = .ok .non := check_number_ok (by omega) (by omega)
theorem check_often {n : Nat} (h2 : n ≤ 5) : PP.d_check_number [.int (n : Nat), .int 0, .int 5] = .ok .non := check_number_ok (by omega) (by omega)
theorem meet_delayed_A {a b : A} (ha : okA a) (hb : okA b) {dl n : Nat} (h1 : 1 ≤ dl) (hd : dl ≤ 30) (hn : n ≤ 5) : PP.d_meet_delayed [dA a, dA b, .int dl, .int n] = .ok (.bl (meetsD a b dl n)) := by
  simp only [PP.d_meet_delayed, PP.s_meet_delayed, body_eq, List.map_cons, List.map_nil, List.replicate, List.cons_append, List.nil_append, List.append_nil, R.bind_ok, R.bind_err, v_0, v_S, ev_C, ev_1, ev_2, av_N, av_C, ev_F, ev_None, ev_NotNone, ev_And, ev_Or, ev_Not, ev_If, ev_Chain, ev_Comp, ev_Tup, ev_Lst, tv_V, tv_And, tv_Or, tv_Not, tv_Yes, iv_Items, iv_A, gv_N, gv_T, gv_0, gv_C, Option.bind_some, wv_0, wv_C, at_n, at_r, at_e, wr_o, wr_e, st_Nx, st_Seq, st_Set, st_Asg, st_Drop, st_Ret, st_If, st_Raise, st_For, st_While, st_Par2, st_Par3, sto_f, sto_t, outO_s, List.set_cons_succ, List.set_cons_zero, asB_b, if_true, if_false, Bool.false_eq_true, Bool.not_true, Bool.not_false, items_l, items_t, bLen_l, bLen_t, bLen_s, bTuple_l, bTuple_t, bList_l, bList_t, idx_t, idx_l, at_0, at_1, rngA_1, rngA_2, isNone_n, isNone_i, isNone_t, isNone_l, lim0, lim1, lim2', lim3, List.length_cons, List.length_nil, Nat.reduceAdd, Nat.zero_add, isB_b, isNotB_b, ne_self okD_bl, eq_self okD_bl, decide_true, decide_false, check_two_A ha hb, check_delay h1 hd, check_often hn, do_meet_b_A ha hb hd hn]
/-- the delays from 1 to 30 -/
def dels : List Nat := (List.range 30).map fun k => 1 + k
theorem rng_dels : rng 1 31 = .ok (dels.map fun k => .int (k : Nat)) := by
  have := rng_NN (s := 1) (e := 31) (by decide) (by decide) (by decide)
  have h : rng 1 31 = .ok ((List.range (31 - 1)).map fun k => .int ((1 + k : Nat) : Int)) := this
  rw [h, dels, List.map_map]; rfl
theorem mem_dels {k : Nat} : k ∈ dels ↔ 1 ≤ k ∧ k ≤ 30 := by
  rw [dels, List.mem_map]
  constructor
  · rintro ⟨j, hj, rfl⟩
    have := List.mem_range.mp hj
    omega
  · rintro ⟨h1, h2⟩
    exact ⟨k - 1, List.mem_range.mpr (by omega), by omega⟩
def leastDel (a b : A) : D := match dels.filter fun k => meetsD a b k 1 with
  | [] => .non
  | k :: _ => .int (k : Nat)
theorem add30 : D.add (.int 30) (.int 1) = .ok (.int 31) := rfl
theorem least_delay_A {a b : A} (ha : okA a) (hb : okA b) : PP.d_least_delay [dA a, dA b] = .ok (leastDel a b) := by
  have cm : compL (gN 3) (tV (eF PP.d_do_meet_b (aC (eV 0) (aC (eV 1) (aC (eV 3) (aC (eC (.int 1)) aN)))))) (eV 3) [some (dA a), some (dA b), none, none] (dels.map fun k => .int (k : Nat)) = .ok ((dels.filter fun k => meetsD a b k 1).map fun k => .int (k : Nat)) :=
    compL_ok _ _ _ _ fun k hk => ⟨_, rfl, by
      have hk' := mem_dels.mp hk
      have hd := do_meet_b_A ha hb (dl := k) (n := 1) hk'.2 (by decide)
      have hd : PP.d_do_meet_b [dA a, dA b, .int (k : Nat), .int 1] = .ok (.bl (meetsD a b k 1)) := hd
      simp only [body_eq, List.map_cons, List.map_nil, List.replicate, List.cons_append, List.nil_append, List.append_nil, R.bind_ok, R.bind_err, v_0, v_S, ev_C, ev_1, ev_2, av_N, av_C, ev_F, ev_None, ev_NotNone, ev_And, ev_Or, ev_Not, ev_If, ev_Chain, ev_Comp, ev_Tup, ev_Lst, tv_V, tv_And, tv_Or, tv_Not, tv_Yes, iv_Items, iv_A, gv_N, gv_T, gv_0, gv_C, Option.bind_some, wv_0, wv_C, at_n, at_r, at_e, wr_o, wr_e, st_Nx, st_Seq, st_Set, st_Asg, st_Drop, st_Ret, st_If, st_Raise, st_For, st_While, st_Par2, st_Par3, sto_f, sto_t, outO_s, List.set_cons_succ, List.set_cons_zero, asB_b, if_true, if_false, Bool.false_eq_true, Bool.not_true, Bool.not_false, items_l, items_t, bLen_l, bLen_t, bLen_s, bTuple_l, bTuple_t, bList_l, bList_t, idx_t, idx_l, at_0, at_1, rngA_1, rngA_2, isNone_n, isNone_i, isNone_t, isNone_l, lim0, lim1, lim2', lim3, List.length_cons, List.length_nil, Nat.reduceAdd, Nat.zero_add, isB_b, isNotB_b, ne_self okD_bl, eq_self okD_bl, decide_true, decide_false, hd], fun _ => by simp only [body_eq, List.map_cons, List.map_nil, List.replicate, List.cons_append, List.nil_append, List.append_nil, R.bind_ok, R.bind_err, v_0, v_S, ev_C, ev_1, ev_2, av_N, av_C, ev_F, ev_None, ev_NotNone, ev_And, ev_Or, ev_Not, ev_If, ev_Chain, ev_Comp, ev_Tup, ev_Lst, tv_V, tv_And, tv_Or, tv_Not, tv_Yes, iv_Items, iv_A, gv_N, gv_T, gv_0, gv_C, Option.bind_some, wv_0, wv_C, at_n, at_r, at_e, wr_o, wr_e, st_Nx, st_Seq, st_Set, st_Asg, st_Drop, st_Ret, st_If, st_Raise, st_For, st_While, st_Par2, st_Par3, sto_f, sto_t, outO_s, List.set_cons_succ, List.set_cons_zero, asB_b, if_true, if_false, Bool.false_eq_true, Bool.not_true, Bool.not_false, items_l, items_t, bLen_l, bLen_t, bLen_s, bTuple_l, bTuple_t, bList_l, bList_t, idx_t, idx_l, at_0, at_1, rngA_1, rngA_2, isNone_n, isNone_i, isNone_t, isNone_l, lim0, lim1, lim2', lim3, List.length_cons, List.length_nil, Nat.reduceAdd, Nat.zero_add, isB_b, isNotB_b, ne_self okD_bl, eq_self okD_bl, decide_true, decide_false]⟩
  have hl : ∀ l : List Nat, (.lst (l.map fun k => .int (k : Nat)) : D) = dN l := fun _ => rfl
  simp only [PP.d_least_delay, PP.s_least_delay, body_eq, List.map_cons, List.map_nil, List.replicate, List.cons_append, List.nil_append, List.append_nil, R.bind_ok, R.bind_err, v_0, v_S, ev_C, ev_1, ev_2, av_N, av_C, ev_F, ev_None, ev_NotNone, ev_And, ev_Or, ev_Not, ev_If, ev_Chain, ev_Comp, ev_Tup, ev_Lst, tv_V, tv_And, tv_Or, tv_Not, tv_Yes, iv_Items, iv_A, gv_N, gv_T, gv_0, gv_C, Option.bind_some, wv_0, wv_C, at_n, at_r, at_e, wr_o, wr_e, st_Nx, st_Seq, st_Set, st_Asg, st_Drop, st_Ret, st_If, st_Raise, st_For, st_While, st_Par2, st_Par3, sto_f, sto_t, outO_s, List.set_cons_succ, List.set_cons_zero, asB_b, if_true, if_false, Bool.false_eq_true, Bool.not_true, Bool.not_false, items_l, items_t, bLen_l, bLen_t, bLen_s, bTuple_l, bTuple_t, bList_l, bList_t, idx_t, idx_l, at_0, at_1, rngA_1, rngA_2, isNone_n, isNone_i, isNone_t, isNone_l, lim0, lim1, lim2', lim3, List.length_cons, List.length_nil, Nat.reduceAdd, Nat.zero_add, isB_b, isNotB_b, ne_self okD_bl, eq_self okD_bl, decide_true, decide_false, check_two_A ha hb, add30, rng_dels, cm, hl, leastDel]
  generalize (dels.filter fun k => meetsD a b k 1) = l
  have hne : D.ne (dN l) (.lst []) = .ok (.bl (!l.isEmpty)) := by rw [dN, ne_nil okD_ints]; simp
  cases l with
  | nil => simp only [hne, List.isEmpty_nil, body_eq, List.map_cons, List.map_nil, List.replicate, List.cons_append, List.nil_append, List.append_nil, R.bind_ok, R.bind_err, v_0, v_S, ev_C, ev_1, ev_2, av_N, av_C, ev_F, ev_None, ev_NotNone, ev_And, ev_Or, ev_Not, ev_If, ev_Chain, ev_Comp, ev_Tup, ev_Lst, tv_V, tv_And, tv_Or, tv_Not, tv_Yes, iv_Items, iv_A, gv_N, gv_T, gv_0, gv_C, Option.bind_some, wv_0, wv_C, at_n, at_r, at_e, wr_o, wr_e, st_Nx, st_Seq, st_Set, st_Asg, st_Drop, st_Ret, st_If, st_Raise, st_For, st_While, st_Par2, st_Par3, sto_f, sto_t, outO_s, List.set_cons_succ, List.set_cons_zero, asB_b, if_true, if_false, Bool.false_eq_true, Bool.not_true, Bool.not_false, items_l, items_t, bLen_l, bLen_t, bLen_s, bTuple_l, bTuple_t, bList_l, bList_t, idx_t, idx_l, at_0, at_1, rngA_1, rngA_2, isNone_n, isNone_i, isNone_t, isNone_l, lim0, lim1, lim2', lim3, List.length_cons, List.length_nil, Nat.reduceAdd, Nat.zero_add, isB_b, isNotB_b, ne_self okD_bl, eq_self okD_bl, decide_true, decide_false]
  | cons k l =>
    have i0 : D.idx (dN (k :: l)) (.int 0) = .ok (.int (k : Nat)) := rfl
    simp only [hne, List.isEmpty_cons, body_eq, List.map_cons, List.map_nil, List.replicate, List.cons_append, List.nil_append, List.append_nil, R.bind_ok, R.bind_err, v_0, v_S, ev_C, ev_1, ev_2, av_N, av_C, ev_F, ev_None, ev_NotNone, ev_And, ev_Or, ev_Not, ev_If, ev_Chain, ev_Comp, ev_Tup, ev_Lst, tv_V, tv_And, tv_Or, tv_Not, tv_Yes, iv_Items, iv_A, gv_N, gv_T, gv_0, gv_C, Option.bind_some, wv_0, wv_C, at_n, at_r, at_e, wr_o, wr_e, st_Nx, st_Seq, st_Set, st_Asg, st_Drop, st_Ret, st_If, st_Raise, st_For, st_While, st_Par2, st_Par3, sto_f, sto_t, outO_s, List.set_cons_succ, List.set_cons_zero, asB_b, if_true, if_false, Bool.false_eq_true, Bool.not_true, Bool.not_false, items_l, items_t, bLen_l, bLen_t, bLen_s, bTuple_l, bTuple_t, bList_l, bList_t, idx_t, idx_l, at_0, at_1, rngA_1, rngA_2, isNone_n, isNone_i, isNone_t, isNone_l, lim0, lim1, lim2', lim3, List.length_cons, List.length_nil, Nat.reduceAdd, Nat.zero_add, isB_b, isNotB_b, ne_self okD_bl, eq_self okD_bl, decide_true, decide_false, i0]
theorem safe_delays_A {a b : A} (ha : okA a) (hb : okA b) {n : Nat} (hn : n ≤ 5) : PP.d_safe_delays [dA a, dA b, .int n] = .ok (dN (dels.filter fun k => !meetsD a b k n)) := by
  have cm : compL (gN 3) (tNotF (tV (eF PP.d_do_meet_b (aC (eV 0) (aC (eV 1) (aC (eV 3) (aC (eV 2) aN))))))) (eV 3) [some (dA a), some (dA b), some (.int (n : Nat)), none] (dels.map fun k => .int (k : Nat)) = .ok ((dels.filter fun k => !meetsD a b k n).map fun k => .int (k : Nat)) :=
    compL_ok _ _ _ _ fun k hk => ⟨_, rfl, by
      have hk' := mem_dels.mp hk
      simp only [body_eq, List.map_cons, List.map_nil, List.replicate, List.cons_append, List.nil_append, List.append_nil, R.bind_ok, R.bind_err, v_0, v_S, ev_C, ev_1, ev_2, av_N, av_C, ev_F, ev_None, ev_NotNone, ev_And, ev_Or, ev_Not, ev_If, ev_Chain, ev_Comp, ev_Tup, ev_Lst, tv_V, tv_And, tv_Or, tv_Not, tv_Yes, iv_Items, iv_A, gv_N, gv_T, gv_0, gv_C, Option.bind_some, wv_0, wv_C, at_n, at_r, at_e, wr_o, wr_e, st_Nx, st_Seq, st_Set, st_Asg, st_Drop, st_Ret, st_If, st_Raise, st_For, st_While, st_Par2, st_Par3, sto_f, sto_t, outO_s, List.set_cons_succ, List.set_cons_zero, asB_b, if_true, if_false, Bool.false_eq_true, Bool.not_true, Bool.not_false, items_l, items_t, bLen_l, bLen_t, bLen_s, bTuple_l, bTuple_t, bList_l, bList_t, idx_t, idx_l, at_0, at_1, rngA_1, rngA_2, isNone_n, isNone_i, isNone_t, isNone_l, lim0, lim1, lim2', lim3, List.length_cons, List.length_nil, Nat.reduceAdd, Nat.zero_add, isB_b, isNotB_b, ne_self okD_bl, eq_self okD_bl, decide_true, decide_false, do_meet_b_A ha hb (dl := k) hk'.2 hn], fun _ => by simp only [body_eq, List.map_cons, List.map_nil, List.replicate, List.cons_append, List.nil_append, List.append_nil, R.bind_ok, R.bind_err, v_0, v_S, ev_C, ev_1, ev_2, av_N, av_C, ev_F, ev_None, ev_NotNone, ev_And, ev_Or, ev_Not, ev_If, ev_Chain, ev_Comp, ev_Tup, ev_Lst, tv_V, tv_And, tv_Or, tv_Not, tv_Yes, iv_Items, iv_A, gv_N, gv_T, gv_0, gv_C, Option.bind_some, wv_0, wv_C, at_n, at_r, at_e, wr_o, wr_e, st_Nx, st_Seq, st_Set, st_Asg, st_Drop, st_Ret, st_If, st_Raise, st_For, st_While, st_Par2, st_Par3, sto_f, sto_t, outO_s, List.set_cons_succ, List.set_cons_zero, asB_b, if_true, if_false, Bool.false_eq_true, Bool.not_true, Bool.not_false, items_l, items_t, bLen_l, bLen_t, bLen_s, bTuple_l, bTuple_t, bList_l, bList_t, idx_t, idx_l, at_0, at_1, rngA_1, rngA_2, isNone_n, isNone_i, isNone_t, isNone_l, lim0, lim1, lim2', lim3, List.length_cons, List.length_nil, Nat.reduceAdd, Nat.zero_add, isB_b, isNotB_b, ne_self okD_bl, eq_self okD_bl, decide_true, decide_false]⟩
  simp only [PP.d_safe_delays, PP.s_safe_delays, body_eq, List.map_cons, List.map_nil, List.replicate, List.cons_append, List.nil_append, List.append_nil, R.bind_ok, R.bind_err, v_0, v_S, ev_C, ev_1, ev_2, av_N, av_C, ev_F, ev_None, ev_NotNone, ev_And, ev_Or, ev_Not, ev_If, ev_Chain, ev_Comp, ev_Tup, ev_Lst, tv_V, tv_And, tv_Or, tv_Not, tv_Yes, iv_Items, iv_A, gv_N, gv_T, gv_0, gv_C, Option.bind_some, wv_0, wv_C, at_n, at_r, at_e, wr_o, wr_e, st_Nx, st_Seq, st_Set, st_Asg, st_Drop, st_Ret, st_If, st_Raise, st_For, st_While, st_Par2, st_Par3, sto_f, sto_t, outO_s, List.set_cons_succ, List.set_cons_zero, asB_b, if_true, if_false, Bool.false_eq_true, Bool.not_true, Bool.not_false, items_l, items_t, bLen_l, bLen_t, bLen_s, bTuple_l, bTuple_t, bList_l, bList_t, idx_t, idx_l, at_0, at_1, rngA_1, rngA_2, isNone_n, isNone_i, isNone_t, isNone_l, lim0, lim1, lim2', lim3, List.length_cons, List.length_nil, Nat.reduceAdd, Nat.zero_add, isB_b, isNotB_b, ne_self okD_bl, eq_self okD_bl, decide_true, decide_false, check_two_A ha hb, check_often hn, add30, rng_dels, cm]
  rfl
/-! the times -/
theorem rng3_n {s e p : Nat} (hs : s < 1000000) (he : e < 1000000) (hp : 1 ≤ p) (hp2 : p < 1000000) : rng3 (s : Nat) (e : Nat) (p : Nat) = .ok ((List.range (((e : Int) - s + p - 1) / p).toNat).map fun k => .int ((s + k * p : Nat) : Int)) := by
  have h1 : (-1152921504606846976 : Int) ≤ s := by omega
  have h2 : (s : Int) < 1152921504606846976 := by omega
  have h3 : (-1152921504606846976 : Int) ≤ e := by omega
  have h4 : (e : Int) < 1152921504606846976 := by omega
  have h5 : (0 : Int) < p := by omega
  have h6 : (p : Int) < 1073741824 := by omega
  have h7 : ((e : Int) - s).toNat ≤ lim := lim2 (by omega)
  unfold rng3
  rw [if_pos (by
    simp only [Bool.and_eq_true, decide_eq_true_eq]
    exact ⟨⟨⟨⟨⟨⟨h1, h2⟩, h3⟩, h4⟩, h5⟩, h6⟩, h7⟩)]
  congr 1
theorem steps_iff {s e p j : Nat} (hp : 1 ≤ p) : j < (((e : Int) - s + p - 1) / p).toNat ↔ s + j * p < e := by
  have hpi : (0 : Int) < p := by omega
  have h : ((j : Int) + 1 ≤ ((e : Int) - s + p - 1) / p) ↔ ((j : Int) + 1) * p ≤ (e : Int) - s + p - 1 := Int.le_ediv_iff_mul_le hpi
  have e1 : ((j : Int) + 1) * p = ((j * p : Nat) : Int) + p := by rw [Int.add_mul, Int.natCast_mul]; omega
  rw [e1] at h
  constructor
  · intro q
    have := h.mp (by omega)
    omega
  · intro q
    have := h.mpr (by omega)
    omega
theorem dput_mem {ks : List Int} {k x : Int} : x ∈ D.dput ks k ↔ x ∈ ks ∨ x = k := by
  unfold D.dput
  by_cases h : ks.contains k = true
  · rw [if_pos h]
    exact ⟨.inl, fun q => q.elim id fun e => by rw [e]; exact List.contains_iff_mem.mp h⟩
  · rw [if_neg h, List.mem_append, List.mem_singleton]
theorem dput_nodup {ks : List Int} {k : Int} (h : ks.Nodup) : (D.dput ks k).Nodup := by
  unfold D.dput
  by_cases hc : ks.contains k = true
  · rw [if_pos hc]; exact h
  · rw [if_neg hc]
    refine List.nodup_append.mpr ⟨h, by simp, fun a ha b hb e => ?_⟩
    rw [List.mem_singleton] at hb
    subst e hb
    exact hc (List.contains_iff_mem.mpr ha)
theorem dput_le (ks : List Int) (k : Int) : (D.dput ks k).length ≤ ks.length + 1 := by
  unfold D.dput
  split
  · omega
  · rw [List.length_append, List.length_singleton]; omega
/-- the keys put so far: all of J steps, and O delays of step J -/
structure Keys (a : A) (dl n J O : Nat) (ks : List Int) : Prop where
  nd : ks.Nodup
  len : ks.length ≤ J * (n + 1) + O
  mem : ∀ x : Int, x ∈ ks ↔ ∃ j o : Nat, x = ((a.2 + j * a.1 + o * dl : Nat) : Int) ∧ ((j < J ∧ o ≤ n) ∨ (j = J ∧ o < O))
theorem Keys.put {a : A} {dl n J O : Nat} {ks : List Int} (h : Keys a dl n J O ks) : Keys a dl n J (O + 1) (D.dput ks ((a.2 + J * a.1 + O * dl : Nat) : Int)) := by
  refine ⟨dput_nodup h.nd, ?_, fun x => ?_⟩
  · have := dput_le ks ((a.2 + J * a.1 + O * dl : Nat) : Int)
    have := h.len
    omega
  · rw [dput_mem, h.mem]
    constructor
    · rintro (⟨j, o, e, q⟩ | e)
      · exact ⟨j, o, e, q.imp id fun q => ⟨q.1, by omega⟩⟩
      · exact ⟨J, O, e, .inr ⟨rfl, by omega⟩⟩
    · rintro ⟨j, o, e, q | ⟨q1, q2⟩⟩
      · exact .inl ⟨j, o, e, .inl q⟩
      · by_cases z : o = O
        · right; rw [e, q1, z]
        · exact .inl ⟨j, o, e, .inr ⟨q1, by omega⟩⟩
theorem Keys.next {a : A} {dl n J : Nat} {ks : List Int} (h : Keys a dl n J (n + 1) ks) : Keys a dl n (J + 1) 0 ks := by
  refine ⟨h.nd, ?_, fun x => ?_⟩
  · have := h.len
    rw [Nat.add_mul]; omega
  · rw [h.mem]
    constructor
    · rintro ⟨j, o, e, q | q⟩
      · exact ⟨j, o, e, .inl ⟨by omega, q.2⟩⟩
      · exact ⟨j, o, e, .inl ⟨by omega, by omega⟩⟩
    · rintro ⟨j, o, e, q | q⟩
      · by_cases z : j = J
        · exact ⟨j, o, e, .inr ⟨z, by omega⟩⟩
        · exact ⟨j, o, e, .inl ⟨by omega, q.2⟩⟩
      · omega
theorem delayed_times_A {a : A} (ha : okA a) {dl n e : Nat} (h1 : 1 ≤ dl) (hd : dl ≤ 30) (hn : n ≤ 5) (he : e ≤ 1000) : PP.d_delayed_times [dA a, .int dl, .int n, .int e] = .ok (dN ((List.range e).filter (lateT a dl n))) := by
  have i0 : D.idx (dA a) (.int 0) = .ok (.int (a.1 : Nat)) := rfl
  have i1 : D.idx (dA a) (.int 1) = .ok (.int (a.2 : Nat)) := rfl
  have hr := rng3_n (s := a.2) (e := e) (p := a.1) (by have := ha.2.1; have := ha.2.2; omega) (by omega) ha.1 (by have := ha.2.1; omega)
  have hr : rngA [.int (a.2 : Nat), .int (e : Nat), .int (a.1 : Nat)] = .ok ((List.range (((e : Int) - a.2 + a.1 - 1) / a.1).toNat).map fun k => .int ((a.2 + k * a.1 : Nat) : Int)) := hr
  have hrn : rng 0 ((n + 1 : Nat) : Int) = .ok ((List.range (n + 1)).map fun k => .int (k : Nat)) := rng_nat (lim2 (by omega))
  have hct := check_time_N (t := (e : Int)) (by omega)
  have hgt : decide ((1000 : Int) < e) = false := decide_eq_false (by omega)
  have step : ∀ {j : Nat}, j < (((e : Int) - a.2 + a.1 - 1) / a.1).toNat ↔ a.2 + j * a.1 < e := steps_iff ha.1
  have small : ∀ {j : Nat}, a.2 + j * a.1 < e → j < 1000 := fun {j} h => by
    have : j * 1 ≤ j * a.1 := Nat.mul_le_mul_left j ha.1
    omega
  obtain ⟨ρ', el, ks, y5, y6, q, hk⟩ := loopF_run (g := gN 5) (b := PP.b_delayed_times_2) (fun k : Nat => .int ((a.2 + k * a.1 : Nat) : Int)) (fun J ρ => ∃ ks y5 y6, ρ = [some (dA a), some (.int (dl : Nat)), some (.int (n : Nat)), some (.int (e : Nat)), some (.dct ks), y5, y6] ∧ Keys a dl n J 0 ks)
    [some (dA a), some (.int (dl : Nat)), some (.int (n : Nat)), some (.int (e : Nat)), some (.dct []), none, none] ⟨[], none, none, rfl, ⟨List.nodup_nil, by simp, fun x => ⟨fun h => absurd h (by simp), fun ⟨j, o, _, q⟩ => by omega⟩⟩⟩ (((e : Int) - a.2 + a.1 - 1) / a.1).toNat (by
    rintro J hJ ρ ⟨ks, y5, y6, rfl, hk⟩
    have hJ' := small (step.mp hJ)
    obtain ⟨ρ2, e2, ks2, z6, q2, hk2⟩ := loopF_run (g := gN 6) (b := PP.b_delayed_times_1) (fun k : Nat => .int (k : Nat)) (fun O ρ => ∃ ks y6, ρ = [some (dA a), some (.int (dl : Nat)), some (.int (n : Nat)), some (.int (e : Nat)), some (.dct ks), some (.int ((a.2 + J * a.1 : Nat) : Int)), y6] ∧ Keys a dl n J O ks)
      [some (dA a), some (.int (dl : Nat)), some (.int (n : Nat)), some (.int (e : Nat)), some (.dct ks), some (.int ((a.2 + J * a.1 : Nat) : Int)), y6] ⟨ks, y6, rfl, hk⟩ (n + 1) (by
      rintro O hO ρ ⟨ks, y6, rfl, hk⟩
      have hm : D.mul (.int (O : Nat)) (.int (dl : Nat)) = .ok (.int ((O * dl : Nat) : Int)) := mul_n (by omega)
      have hlen : ks.length < lim := by
        have h1 := hk.len
        have h2 : J * (n + 1) ≤ 1000 * 6 := Nat.mul_le_mul (by omega) (by omega)
        exact Nat.lt_of_lt_of_le (show ks.length < 1000000 by omega) (lim2 (Nat.le_refl _))
      refine ⟨_, [some (dA a), some (.int (dl : Nat)), some (.int (n : Nat)), some (.int (e : Nat)), some (.dct (D.dput ks ((a.2 + J * a.1 + O * dl : Nat) : Int))), some (.int ((a.2 + J * a.1 : Nat) : Int)), some (.int (O : Nat))], rfl, ?_, ⟨_, _, rfl, hk.put⟩⟩
      unfold PP.b_delayed_times_1 sDPut
      simp only [List.getElem?_cons_succ, List.getElem?_cons_zero, body_eq, List.map_cons, List.map_nil, List.replicate, List.cons_append, List.nil_append, List.append_nil, R.bind_ok, R.bind_err, v_0, v_S, ev_C, ev_1, ev_2, av_N, av_C, ev_F, ev_None, ev_NotNone, ev_And, ev_Or, ev_Not, ev_If, ev_Chain, ev_Comp, ev_Tup, ev_Lst, tv_V, tv_And, tv_Or, tv_Not, tv_Yes, iv_Items, iv_A, gv_N, gv_T, gv_0, gv_C, Option.bind_some, wv_0, wv_C, at_n, at_r, at_e, wr_o, wr_e, st_Nx, st_Seq, st_Set, st_Asg, st_Drop, st_Ret, st_If, st_Raise, st_For, st_While, st_Par2, st_Par3, sto_f, sto_t, outO_s, List.set_cons_succ, List.set_cons_zero, asB_b, if_true, if_false, Bool.false_eq_true, Bool.not_true, Bool.not_false, items_l, items_t, bLen_l, bLen_t, bLen_s, bTuple_l, bTuple_t, bList_l, bList_t, idx_t, idx_l, at_0, at_1, rngA_1, rngA_2, isNone_n, isNone_i, isNone_t, isNone_l, lim0, lim1, lim2', lim3, List.length_cons, List.length_nil, Nat.reduceAdd, Nat.zero_add, isB_b, isNotB_b, ne_self okD_bl, eq_self okD_bl, decide_true, decide_false, hm, add_n, if_pos hlen])
    subst q2
    refine ⟨_, [some (dA a), some (.int (dl : Nat)), some (.int (n : Nat)), some (.int (e : Nat)), some (.dct ks2), some (.int ((a.2 + J * a.1 : Nat) : Int)), z6], rfl, ?_, ⟨_, _, _, rfl, hk2.next⟩⟩
    simp only [PP.b_delayed_times_2, body_eq, List.map_cons, List.map_nil, List.replicate, List.cons_append, List.nil_append, List.append_nil, R.bind_ok, R.bind_err, v_0, v_S, ev_C, ev_1, ev_2, av_N, av_C, ev_F, ev_None, ev_NotNone, ev_And, ev_Or, ev_Not, ev_If, ev_Chain, ev_Comp, ev_Tup, ev_Lst, tv_V, tv_And, tv_Or, tv_Not, tv_Yes, iv_Items, iv_A, gv_N, gv_T, gv_0, gv_C, Option.bind_some, wv_0, wv_C, at_n, at_r, at_e, wr_o, wr_e, st_Nx, st_Seq, st_Set, st_Asg, st_Drop, st_Ret, st_If, st_Raise, st_For, st_While, st_Par2, st_Par3, sto_f, sto_t, outO_s, List.set_cons_succ, List.set_cons_zero, asB_b, if_true, if_false, Bool.false_eq_true, Bool.not_true, Bool.not_false, items_l, items_t, bLen_l, bLen_t, bLen_s, bTuple_l, bTuple_t, bList_l, bList_t, idx_t, idx_l, at_0, at_1, rngA_1, rngA_2, isNone_n, isNone_i, isNone_t, isNone_l, lim0, lim1, lim2', lim3, List.length_cons, List.length_nil, Nat.reduceAdd, Nat.zero_add, isB_b, isNotB_b, ne_self okD_bl, eq_self okD_bl, decide_true, decide_false, add_one', hrn, e2])
  subst q
  have hcm : compL (gN 5) (tV (e2 D.lt (eV 5) (eV 3))) (eV 5) [some (dA a), some (.int (dl : Nat)), some (.int (n : Nat)), some (.int (e : Nat)), none, none, y6] (ks.map .int) = .ok ((ks.filter fun k => decide (k < (e : Int))).map .int) :=
    compL_ok _ _ _ _ fun k hk => ⟨_, rfl, by simp only [body_eq, List.map_cons, List.map_nil, List.replicate, List.cons_append, List.nil_append, List.append_nil, R.bind_ok, R.bind_err, v_0, v_S, ev_C, ev_1, ev_2, av_N, av_C, ev_F, ev_None, ev_NotNone, ev_And, ev_Or, ev_Not, ev_If, ev_Chain, ev_Comp, ev_Tup, ev_Lst, tv_V, tv_And, tv_Or, tv_Not, tv_Yes, iv_Items, iv_A, gv_N, gv_T, gv_0, gv_C, Option.bind_some, wv_0, wv_C, at_n, at_r, at_e, wr_o, wr_e, st_Nx, st_Seq, st_Set, st_Asg, st_Drop, st_Ret, st_If, st_Raise, st_For, st_While, st_Par2, st_Par3, sto_f, sto_t, outO_s, List.set_cons_succ, List.set_cons_zero, asB_b, if_true, if_false, Bool.false_eq_true, Bool.not_true, Bool.not_false, items_l, items_t, bLen_l, bLen_t, bLen_s, bTuple_l, bTuple_t, bList_l, bList_t, idx_t, idx_l, at_0, at_1, rngA_1, rngA_2, isNone_n, isNone_i, isNone_t, isNone_l, lim0, lim1, lim2', lim3, List.length_cons, List.length_nil, Nat.reduceAdd, Nat.zero_add, isB_b, isNotB_b, ne_self okD_bl, eq_self okD_bl, decide_true, decide_false, lt_i], fun _ => by simp only [body_eq, List.map_cons, List.map_nil, List.replicate, List.cons_append, List.nil_append, List.append_nil, R.bind_ok, R.bind_err, v_0, v_S, ev_C, ev_1, ev_2, av_N, av_C, ev_F, ev_None, ev_NotNone, ev_And, ev_Or, ev_Not, ev_If, ev_Chain, ev_Comp, ev_Tup, ev_Lst, tv_V, tv_And, tv_Or, tv_Not, tv_Yes, iv_Items, iv_A, gv_N, gv_T, gv_0, gv_C, Option.bind_some, wv_0, wv_C, at_n, at_r, at_e, wr_o, wr_e, st_Nx, st_Seq, st_Set, st_Asg, st_Drop, st_Ret, st_If, st_Raise, st_For, st_While, st_Par2, st_Par3, sto_f, sto_t, outO_s, List.set_cons_succ, List.set_cons_zero, asB_b, if_true, if_false, Bool.false_eq_true, Bool.not_true, Bool.not_false, items_l, items_t, bLen_l, bLen_t, bLen_s, bTuple_l, bTuple_t, bList_l, bList_t, idx_t, idx_l, at_0, at_1, rngA_1, rngA_2, isNone_n, isNone_i, isNone_t, isNone_l, lim0, lim1, lim2', lim3, List.length_cons, List.length_nil, Nat.reduceAdd, Nat.zero_add, isB_b, isNotB_b, ne_self okD_bl, eq_self okD_bl, decide_true, decide_false]⟩
  have hcd : eCompD 4 [5] (gN 5) (tV (e2 D.lt (eV 5) (eV 3))) (eV 5) [some (dA a), some (.int (dl : Nat)), some (.int (n : Nat)), some (.int (e : Nat)), some (.dct ks), y5, y6] = .ok (.lst ((ks.filter fun k => decide (k < (e : Int))).map .int)) := by
    unfold eCompD
    simp only [List.getElem?_cons_succ, List.getElem?_cons_zero, wv_C, wv_0, List.set_cons_succ, List.set_cons_zero, hcm, R.bind_ok]
  have hin := intsOf_map (f := fun i : Int => i) (ks.filter fun k => decide (k < (e : Int)))
  have hsort : D.bSorted [.lst ((ks.filter fun k => decide (k < (e : Int))).map .int)] = .ok (dN ((List.range e).filter (lateT a dl n))) := by
    have e1 : ((ks.filter fun k => decide (k < (e : Int))).mergeSort D.upI) = ((List.range e).filter (lateT a dl n)).map fun t : Nat => (t : Int) := by
      refine asc_one ?_ ?_ fun x => ?_
      · have h1 := upI_sorted (ks.filter fun k => decide (k < (e : Int)))
        have h2 : ((ks.filter fun k => decide (k < (e : Int))).mergeSort D.upI).Nodup := (List.mergeSort_perm _ _).nodup_iff.mpr (hk.nd.sublist List.filter_sublist)
        exact List.Pairwise.imp_of_mem (fun {x y} _ _ h => by have := h.1; have := h.2; omega) (h1.and h2)
      · rw [List.pairwise_map]
        exact (sorted_filter e (lateT a dl n)).imp fun h => by omega
      · rw [(List.mergeSort_perm _ _).mem_iff, List.mem_filter, hk.mem, decide_eq_true_eq, List.mem_map]
        constructor
        · rintro ⟨⟨j, o, rfl, q⟩, hx⟩
          rcases q with ⟨q1, q2⟩ | q
          · refine ⟨a.2 + j * a.1 + o * dl, List.mem_filter.mpr ⟨List.mem_range.mpr (by omega), lateT_iff.mpr ⟨o, q2, by omega, ?_⟩⟩, rfl⟩
            rw [show a.2 + j * a.1 + o * dl - o * dl = a.2 + a.1 * j by rw [Nat.mul_comm a.1]; omega]
            exact ring_at j ha.2.2
          · omega
        · rintro ⟨t, ht, rfl⟩
          obtain ⟨h1, h2⟩ := List.mem_filter.mp ht
          obtain ⟨o, g1, g2, g3⟩ := lateT_iff.mp h2
          obtain ⟨j, hj⟩ := ring_form g3
          have hj : t - o * dl = a.2 + j * a.1 := by rw [hj, Nat.mul_comm a.1]
          have hte := List.mem_range.mp h1
          have e0 : a.2 + j * a.1 + o * dl = t := by omega
          refine ⟨⟨j, o, by rw [e0], .inl ⟨step.mpr (by omega), g1⟩⟩, by omega⟩
    have hin : D.intsOf ((ks.filter fun k => decide (k < (e : Int))).map .int) = some (ks.filter fun k => decide (k < (e : Int))) := by simpa using hin
    simp only [D.bSorted, hin, e1, List.map_map]
    rfl
  simp only [PP.d_delayed_times, PP.s_delayed_times, body_eq, List.map_cons, List.map_nil, List.replicate, List.cons_append, List.nil_append, List.append_nil, R.bind_ok, R.bind_err, v_0, v_S, ev_C, ev_1, ev_2, av_N, av_C, ev_F, ev_None, ev_NotNone, ev_And, ev_Or, ev_Not, ev_If, ev_Chain, ev_Comp, ev_Tup, ev_Lst, tv_V, tv_And, tv_Or, tv_Not, tv_Yes, iv_Items, iv_A, gv_N, gv_T, gv_0, gv_C, Option.bind_some, wv_0, wv_C, at_n, at_r, at_e, wr_o, wr_e, st_Nx, st_Seq, st_Set, st_Asg, st_Drop, st_Ret, st_If, st_Raise, st_For, st_While, st_Par2, st_Par3, sto_f, sto_t, outO_s, List.set_cons_succ, List.set_cons_zero, asB_b, if_true, if_false, Bool.false_eq_true, Bool.not_true, Bool.not_false, items_l, items_t, bLen_l, bLen_t, bLen_s, bTuple_l, bTuple_t, bList_l, bList_t, idx_t, idx_l, at_0, at_1, rngA_1, rngA_2, isNone_n, isNone_i, isNone_t, isNone_l, lim0, lim1, lim2', lim3, List.length_cons, List.length_nil, Nat.reduceAdd, Nat.zero_add, isB_b, isNotB_b, ne_self okD_bl, eq_self okD_bl, decide_true, decide_false, check_alarm_A ha, check_delay h1 hd, check_often hn, hct, gt_i, hgt, st_SetO, i0, i1, hr, el, hcd, hsort]
end RT

namespace RT
/-! S18: the longest silence -/
/-! gaps -/
def adj (l : List Nat) : List (Nat × Nat) := l.zip (l.drop 1)
theorem adj_cons (x y : Nat) (l : List Nat) : adj (x :: y :: l) = (x, y) :: adj (y :: l) := rfl
theorem adj_mem : ∀ {l : List Nat} {x y : Nat}, l.Pairwise (· < ·) → (x, y) ∈ adj l → x ∈ l ∧ y ∈ l ∧ x < y ∧ ∀ z ∈ l, z ≤ x ∨ y ≤ z
  | [], _, _, _, h => by simp [adj] at h
  | [a], _, _, _, h => by simp [adj] at h
  | a :: b :: l, x, y, hp, h => by
    have hp' := List.pairwise_cons.mp hp
    rw [adj_cons] at h
    rcases List.mem_cons.mp h with e | h
    · have e1 : x = a := congrArg Prod.fst e
      have e2 : y = b := congrArg Prod.snd e
      subst e1 e2
      refine ⟨by simp, by simp, hp'.1 _ (by simp), fun z hz => ?_⟩
      rcases List.mem_cons.mp hz with e | hz
      · left; omega
      · rcases List.mem_cons.mp hz with e | hz
        · right; omega
        · right; have := (List.pairwise_cons.mp hp'.2).1 z hz; omega
    · obtain ⟨h1, h2, h3, h4⟩ := adj_mem hp'.2 h
      refine ⟨List.mem_cons_of_mem _ h1, List.mem_cons_of_mem _ h2, h3, fun z hz => ?_⟩
      rcases List.mem_cons.mp hz with e | hz
      · left; have := hp'.1 x h1; omega
      · exact h4 z hz
theorem adj_ex : ∀ {l : List Nat} {x m : Nat}, l.Pairwise (· < ·) → x ∈ l → m ∈ l → x < m → ∃ y, (x, y) ∈ adj l
  | [], _, _, _, h, _, _ => by simp at h
  | [a], x, m, _, h, h2, h3 => by simp at h h2; omega
  | a :: b :: l, x, m, hp, h, h2, h3 => by
    have hp' := List.pairwise_cons.mp hp
    rw [adj_cons]
    rcases List.mem_cons.mp h with e | h
    · exact ⟨b, by rw [e]; simp⟩
    · rcases List.mem_cons.mp h2 with e | h2
      · have := hp'.1 x h; omega
      · obtain ⟨y, hy⟩ := adj_ex hp'.2 h h2 h3
        exact ⟨y, List.mem_cons_of_mem _ hy⟩
/-- the silence that has lasted before t; the longest so far -/
def cur (p : Nat → Bool) : Nat → Nat
  | 0 => 0
  | t + 1 => if p t = true then 0 else cur p t + 1
def best (p : Nat → Bool) : Nat → Nat
  | 0 => 0
  | t + 1 => if cur p (t + 1) > best p t then cur p (t + 1) else best p t
theorem cur_le (p : Nat → Bool) : ∀ t, cur p t ≤ t
  | 0 => Nat.le_refl _
  | t + 1 => by have := cur_le p t; rw [cur]; split <;> omega
theorem cur_silent (p : Nat → Bool) : ∀ t s, t - cur p t ≤ s → s < t → p s = false
  | 0, s, _, h => by omega
  | t + 1, s, h1, h2 => by
    rw [cur] at h1
    split at h1
    · omega
    · rename_i hp
      by_cases e : s = t
      · rw [e]; simpa using hp
      · exact cur_silent p t s (by omega) (by omega)
theorem cur_ge (p : Nat → Bool) (s : Nat) : ∀ g, (∀ k, s ≤ k → k < s + g → p k = false) → g ≤ cur p (s + g)
  | 0, _ => Nat.zero_le _
  | g + 1, h => by
    have := cur_ge p s g fun k h1 h2 => h k h1 (by omega)
    rw [← Nat.add_assoc, cur, if_neg (by rw [h (s + g) (by omega) (by omega)]; decide)]
    omega
theorem le_best (p : Nat → Bool) : ∀ n t, t ≤ n → cur p t ≤ best p n
  | 0, t, h => by
    have : t = 0 := by omega
    subst this; exact Nat.le_refl _
  | n + 1, t, h => by
    rw [best]
    by_cases e : t = n + 1
    · subst e; split <;> omega
    · have := le_best p n t (by omega)
      split <;> omega
theorem best_ex (p : Nat → Bool) : ∀ n, ∃ t, t ≤ n ∧ best p n = cur p t
  | 0 => ⟨0, Nat.le_refl _, rfl⟩
  | n + 1 => by
    rw [best]
    split
    · exact ⟨n + 1, Nat.le_refl _, rfl⟩
    · obtain ⟨t, h1, h2⟩ := best_ex p n
      exact ⟨t, by omega, h2⟩
/-- the gaps of one period -/
def gaps (p : Nat → Bool) (L f0 : Nat) : List (Nat × Nat) := adj ((List.range L).filter p ++ [f0 + L])
theorem best_gap {p : Nat → Bool} {L f0 : Nat} {tl : List Nat} (hper : ∀ t, p (t + L) = p t) (hf : (List.range L).filter p = f0 :: tl) :
    D.maxI ((gaps p L f0).map fun x => (x.2 : Int) - (x.1 : Nat) - 1) = (best p (2 * L) : Nat) := by
  have h0 : f0 ∈ (List.range L).filter p := by rw [hf]; simp
  have h0L := List.mem_range.mp (List.mem_filter.mp h0).1
  have h0p := (List.mem_filter.mp h0).2
  have hsort : ((List.range L).filter p ++ [f0 + L]).Pairwise (· < ·) := by
    rw [List.pairwise_append]
    refine ⟨List.pairwise_lt_range.filter _, by simp, fun x hx y hy => ?_⟩
    have := List.mem_range.mp (List.mem_filter.mp hx).1
    rw [List.mem_singleton] at hy
    omega
  have hfirst : ∀ t, t < f0 → p t = false := fun t ht => by
    cases hp : p t with
    | false => rfl
    | true =>
      have hm : t ∈ (List.range L).filter p := List.mem_filter.mpr ⟨List.mem_range.mpr (by omega), hp⟩
      have hs : (f0 :: tl).Pairwise (· < ·) := by rw [← hf]; exact List.pairwise_lt_range.filter _
      rw [hf] at hm
      rcases List.mem_cons.mp hm with e | hm
      · omega
      · have := (List.pairwise_cons.mp hs).1 t hm; omega
  have hmem : ∀ t, t ∈ (List.range L).filter p ++ [f0 + L] ↔ (t < L ∧ p t = true) ∨ t = f0 + L := fun t => by
    rw [List.mem_append, List.mem_filter, List.mem_range, List.mem_singleton]
  have hmul : ∀ q t, p (t + L * q) = p t := fun q => by
    induction q with
    | zero => intro t; rfl
    | succ q ih => intro t; rw [Nat.mul_succ, ← Nat.add_assoc, hper, ih]
  -- the next one
  have next : ∀ f, p f = true → ∃ x y, (x, y) ∈ gaps p L f0 ∧ ∃ f', p f' = true ∧ f < f' ∧ f' - f = y - x := fun f hpf => by
    have hx : f % L ∈ (List.range L).filter p := List.mem_filter.mpr ⟨List.mem_range.mpr (Nat.mod_lt _ (by omega)), by rw [← hmul (f / L), Nat.mod_add_div]; exact hpf⟩
    have hxL := List.mem_range.mp (List.mem_filter.mp hx).1
    obtain ⟨y, hy⟩ := adj_ex hsort (List.mem_append_left _ hx) (show f0 + L ∈ _ from by simp) (show f % L < f0 + L by omega)
    obtain ⟨-, h2, h3, -⟩ := adj_mem hsort hy
    refine ⟨f % L, y, hy, y + L * (f / L), ?_, ?_, ?_⟩
    · rw [hmul]
      rcases (hmem y).mp h2 with h | h
      · exact h.2
      · rw [h, hper]; exact h0p
    · have := Nat.mod_add_div f L; omega
    · have := Nat.mod_add_div f L; omega
  have hgne : gaps p L f0 ≠ [] := by
    obtain ⟨x, y, h, _⟩ := next f0 h0p
    exact fun e => by rw [e] at h; simp at h
  have hlist : ((gaps p L f0).map fun x => (x.2 : Int) - (x.1 : Nat) - 1) ≠ [] := by simpa using hgne
  obtain ⟨⟨x, y⟩, hxy, exy⟩ := List.mem_map.mp (maxI_mem hlist)
  have exy : (y : Int) - (x : Nat) - 1 = _ := exy
  have hM : ∀ x y, (x, y) ∈ gaps p L f0 → (y : Int) - (x : Nat) - 1 ≤ D.maxI ((gaps p L f0).map fun x => (x.2 : Int) - (x.1 : Nat) - 1) := fun x y h => maxI_le (List.mem_map.mpr ⟨(x, y), h, rfl⟩)
  generalize D.maxI ((gaps p L f0).map fun x => (x.2 : Int) - (x.1 : Nat) - 1) = M at exy hM
  obtain ⟨h1, h2, h3, h4⟩ := adj_mem hsort hxy
  have key : y - x - 1 ≤ best p (2 * L) := by
    have hy : y ≤ f0 + L := by
      rcases (hmem y).mp h2 with h | h <;> omega
    have hc := cur_ge p (x + 1) (y - x - 1) fun k k1 k2 => by
      cases hp : p k with
      | false => rfl
      | true =>
        by_cases hk : k < L
        · rcases h4 k ((hmem k).mpr (.inl ⟨hk, hp⟩)) with h | h <;> omega
        · have : p (k - L) = true := by rw [← hper, show k - L + L = k by omega]; exact hp
          rw [hfirst (k - L) (by omega)] at this; cases this
    exact Nat.le_trans hc (le_best p _ _ (by omega))
  have key2 : ∀ t, t ≤ 2 * L → (cur p t : Int) ≤ M := fun t ht => by
    have hc := cur_le p t
    have hsil := cur_silent p t
    generalize cur p t = c at hc hsil
    -- the last one before
    by_cases hb : ∃ f, f < t - c ∧ p f = true
    · have : ∃ f, f < t - c ∧ p f = true ∧ ∀ k, f < k → k < t - c → p k = false := by
        have hl : ((List.range (t - c)).filter p) ≠ [] := by
          obtain ⟨f, h1, h2⟩ := hb
          exact List.ne_nil_of_mem (List.mem_filter.mpr ⟨List.mem_range.mpr h1, h2⟩)
        have hm := List.getLast_mem hl
        have hs : ((List.range (t - c)).filter p).Pairwise (· < ·) := List.pairwise_lt_range.filter _
        refine ⟨_, List.mem_range.mp (List.mem_filter.mp hm).1, (List.mem_filter.mp hm).2, fun k k1 k2 => ?_⟩
        cases hp : p k with
        | false => rfl
        | true =>
          have hk : k ∈ (List.range (t - c)).filter p := List.mem_filter.mpr ⟨List.mem_range.mpr k2, hp⟩
          rw [← List.dropLast_concat_getLast hl] at hk hs
          rcases List.mem_append.mp hk with h | h
          · have := (List.pairwise_append.mp hs).2.2 k h _ (List.mem_singleton.mpr rfl); omega
          · rw [List.mem_singleton] at h; omega
      obtain ⟨f, f1, f2, f3⟩ := this
      obtain ⟨x', y', hg, f', g1, g2, g3⟩ := next f f2
      have hb := hM x' y' hg
      have : t ≤ f' := by
        rcases Nat.lt_or_ge f' t with h | h
        · exfalso
          rcases Nat.lt_or_ge f' (t - c) with h' | h'
          · rw [f3 f' g2 h'] at g1; cases g1
          · rw [hsil f' h' h] at g1; cases g1
        · exact h
      have := (adj_mem hsort hg).2.2.1
      omega
    · have hz : t ≤ f0 := by
        rcases Nat.lt_or_ge f0 t with h | h
        · exfalso
          rcases Nat.lt_or_ge f0 (t - c) with h' | h'
          · exact hb ⟨f0, h', h0p⟩
          · rw [hsil f0 h' h] at h0p; cases h0p
        · exact h
      -- the gap about the period's end
      have hl : ((List.range L).filter p) ≠ [] := by rw [hf]; simp
      have hm := List.getLast_mem hl
      have hmL := List.mem_range.mp (List.mem_filter.mp hm).1
      obtain ⟨y', hy'⟩ := adj_ex hsort (List.mem_append_left _ hm) (show f0 + L ∈ _ from by simp) (by omega)
      have h5 := adj_mem hsort hy'
      have hs : ((List.range L).filter p).Pairwise (· < ·) := List.pairwise_lt_range.filter _
      have : y' = f0 + L := by
        rcases (hmem y').mp h5.2.1 with h | h
        · have hk : y' ∈ (List.range L).filter p := List.mem_filter.mpr ⟨List.mem_range.mpr h.1, h.2⟩
          have h6 := h5.2.2.1
          rw [← List.dropLast_concat_getLast hl] at hk hs
          rcases List.mem_append.mp hk with h | h
          · have := (List.pairwise_append.mp hs).2.2 y' h _ (List.mem_singleton.mpr rfl); omega
          · rw [List.mem_singleton] at h; omega
        · exact h
      have hb := hM _ y' hy'
      omega
  obtain ⟨t, ht, et⟩ := best_ex p (2 * L)
  have := key2 t ht
  omega
/-! the functions -/
def pR (r : List A) (t : Nat) : Bool := !(heard r t).isEmpty
theorem zip_adj (l : List Nat) : zipA [dN l, .lst ((l.map fun k : Nat => D.int (k : Nat)).drop 1)] = .ok ((adj l).map fun x => .tup [.int (x.1 : Nat), .int (x.2 : Nat)]) := by
  show R.ok (zipD (l.map fun k : Nat => D.int (k : Nat)) ((l.map fun k : Nat => D.int (k : Nat)).drop 1)) = _
  rw [zipD, adj, ← List.map_drop, List.zip_map, List.map_map]
  rfl
theorem cut1 (l : List Nat) : D.cut (some 1) none (dN l) = .ok (.lst ((l.map fun k : Nat => D.int (k : Nat)).drop 1)) := by
  show R.ok (D.lst (D.cutL (l.map fun k : Nat => D.int (k : Nat)) (some ((1 : Nat) : Int)) none)) = _
  rw [cut_drop]
theorem find_times_R {r : List A} (h : okR r) (hc : cyc r ≤ 5000) : PP.d_find_times [dR r] = .ok (dN ((List.range (cyc r)).filter (pR r))) := by
  have hr : rng 0 ((cyc r : Nat) : Int) = .ok ((List.range (cyc r)).map fun k => .int (k : Nat)) := rng_nat (lim2 (by omega))
  have cm : compL (gN 1) (tV (e2 D.ne (eF PP.d_find_ringing (aC (eV 0) (aC (eV 1) aN))) (eLst aN))) (eV 1) [some (dR r), none] ((List.range (cyc r)).map fun k => .int (k : Nat)) = .ok (((List.range (cyc r)).filter (pR r)).map fun k => .int (k : Nat)) :=
    compL_ok _ _ _ _ fun k hk => ⟨_, rfl, by
      have hne := heard_ne (r := r) (t := k)
      simp only [body_eq, List.map_cons, List.map_nil, List.replicate, List.cons_append, List.nil_append, List.append_nil, R.bind_ok, R.bind_err, v_0, v_S, ev_C, ev_1, ev_2, av_N, av_C, ev_F, ev_None, ev_NotNone, ev_And, ev_Or, ev_Not, ev_If, ev_Chain, ev_Comp, ev_Tup, ev_Lst, tv_V, tv_And, tv_Or, tv_Not, tv_Yes, iv_Items, iv_A, gv_N, gv_T, gv_0, gv_C, Option.bind_some, wv_0, wv_C, at_n, at_r, at_e, wr_o, wr_e, st_Nx, st_Seq, st_Set, st_Asg, st_Drop, st_Ret, st_If, st_Raise, st_For, st_While, st_Par2, st_Par3, sto_f, sto_t, outO_s, List.set_cons_succ, List.set_cons_zero, asB_b, if_true, if_false, Bool.false_eq_true, Bool.not_true, Bool.not_false, items_l, items_t, bLen_l, bLen_t, bLen_s, bTuple_l, bTuple_t, bList_l, bList_t, idx_t, idx_l, at_0, at_1, rngA_1, rngA_2, isNone_n, isNone_i, isNone_t, isNone_l, lim0, lim1, lim2', lim3, List.length_cons, List.length_nil, Nat.reduceAdd, Nat.zero_add, isB_b, isNotB_b, ne_self okD_bl, eq_self okD_bl, decide_true, decide_false, find_ringing_R h, hne]
      rfl, fun _ => by simp only [body_eq, List.map_cons, List.map_nil, List.replicate, List.cons_append, List.nil_append, List.append_nil, R.bind_ok, R.bind_err, v_0, v_S, ev_C, ev_1, ev_2, av_N, av_C, ev_F, ev_None, ev_NotNone, ev_And, ev_Or, ev_Not, ev_If, ev_Chain, ev_Comp, ev_Tup, ev_Lst, tv_V, tv_And, tv_Or, tv_Not, tv_Yes, iv_Items, iv_A, gv_N, gv_T, gv_0, gv_C, Option.bind_some, wv_0, wv_C, at_n, at_r, at_e, wr_o, wr_e, st_Nx, st_Seq, st_Set, st_Asg, st_Drop, st_Ret, st_If, st_Raise, st_For, st_While, st_Par2, st_Par3, sto_f, sto_t, outO_s, List.set_cons_succ, List.set_cons_zero, asB_b, if_true, if_false, Bool.false_eq_true, Bool.not_true, Bool.not_false, items_l, items_t, bLen_l, bLen_t, bLen_s, bTuple_l, bTuple_t, bList_l, bList_t, idx_t, idx_l, at_0, at_1, rngA_1, rngA_2, isNone_n, isNone_i, isNone_t, isNone_l, lim0, lim1, lim2', lim3, List.length_cons, List.length_nil, Nat.reduceAdd, Nat.zero_add, isB_b, isNotB_b, ne_self okD_bl, eq_self okD_bl, decide_true, decide_false]⟩
  simp only [PP.d_find_times, PP.s_find_times, body_eq, List.map_cons, List.map_nil, List.replicate, List.cons_append, List.nil_append, List.append_nil, R.bind_ok, R.bind_err, v_0, v_S, ev_C, ev_1, ev_2, av_N, av_C, ev_F, ev_None, ev_NotNone, ev_And, ev_Or, ev_Not, ev_If, ev_Chain, ev_Comp, ev_Tup, ev_Lst, tv_V, tv_And, tv_Or, tv_Not, tv_Yes, iv_Items, iv_A, gv_N, gv_T, gv_0, gv_C, Option.bind_some, wv_0, wv_C, at_n, at_r, at_e, wr_o, wr_e, st_Nx, st_Seq, st_Set, st_Asg, st_Drop, st_Ret, st_If, st_Raise, st_For, st_While, st_Par2, st_Par3, sto_f, sto_t, outO_s, List.set_cons_succ, List.set_cons_zero, asB_b, if_true, if_false, Bool.false_eq_true, Bool.not_true, Bool.not_false, items_l, items_t, bLen_l, bLen_t, bLen_s, bTuple_l, bTuple_t, bList_l, bList_t, idx_t, idx_l, at_0, at_1, rngA_1, rngA_2, isNone_n, isNone_i, isNone_t, isNone_l, lim0, lim1, lim2', lim3, List.length_cons, List.length_nil, Nat.reduceAdd, Nat.zero_add, isB_b, isNotB_b, ne_self okD_bl, eq_self okD_bl, decide_true, decide_false, find_cycle_R h.2, hr, cm]
  rfl
theorem heard_cyc {r : List A} (t : Nat) : heard r (t + cyc r) = heard r t := heard_shift fun a ha => dvd_cyc ha
theorem times_ne {r : List A} (h : okR r) (hne : r ≠ []) : ∃ f0 tl, (List.range (cyc r)).filter (pR r) = f0 :: tl := by
  have : (List.range (cyc r)).filter (pR r) ≠ [] := by
    match r, hne with
    | a :: r, _ =>
      have ha := h.2 a (by simp)
      have hd := Nat.le_of_dvd (cyc_pos h.2) (dvd_cyc (r := a :: r) (a := a) (by simp))
      refine List.ne_nil_of_mem (a := a.2) (List.mem_filter.mpr ⟨List.mem_range.mpr (by have := ha.2.2; omega), ?_⟩)
      have hm : 0 ∈ heard (a :: r) a.2 := heard_mem.mpr ⟨by simp, by
        show ringsAt a a.2 = true
        rw [rings_iff]; exact Nat.mod_eq_of_lt ha.2.2⟩
      rw [pR, List.isEmpty_eq_false_iff.mpr (List.ne_nil_of_mem hm)]
      rfl
  cases hx : (List.range (cyc r)).filter (pR r) with
  | nil => exact absurd hx this
  | cons a l => exact ⟨a, l, rfl⟩
theorem longest_silence_R {r : List A} (h : okR r) (hc : cyc r ≤ 5000) (hne : r ≠ []) : PP.d_longest_silence [dR r] = .ok (.int (best (pR r) (2 * cyc r) : Nat)) := by
  obtain ⟨f0, tl, hf⟩ := times_ne h hne
  have hg := best_gap (p := pR r) (L := cyc r) (fun t => by rw [pR, pR, heard_cyc]) hf
  have hft := find_times_R h hc
  have he : D.eq (dR r) (.tup []) = .ok (.bl false) := by rw [eq_tnil, List.isEmpty_eq_false_iff.mpr hne]
  have hi : D.idx (dN ((List.range (cyc r)).filter (pR r))) (.int 0) = .ok (.int (f0 : Nat)) := by rw [hf]; rfl
  have hlen : (((List.range (cyc r)).filter (pR r)).map fun k : Nat => D.int (k : Nat)).length < lim := by
    have := List.length_filter_le (pR r) (List.range (cyc r))
    rw [List.length_range] at this
    rw [List.length_map]
    exact Nat.lt_of_lt_of_le (show _ < 1000000 by omega) (lim2 (Nat.le_refl _))
  have happ : (((List.range (cyc r)).filter (pR r)).map fun k : Nat => D.int (k : Nat)) ++ [D.int ((f0 + cyc r : Nat) : Int)] = (((List.range (cyc r)).filter (pR r)) ++ [f0 + cyc r]).map fun k : Nat => D.int (k : Nat) := by rw [List.map_append]; rfl
  have cm : compL (gT (gsC (gN 2) (gsC (gN 3) gs0))) tYesF (e2 D.sub (e2 D.sub (eV 3) (eV 2)) (eC (.int 1))) [some (dR r), some (dN ((List.range (cyc r)).filter (pR r) ++ [f0 + cyc r])), none, none] ((gaps (pR r) (cyc r) f0).map fun x => .tup [.int (x.1 : Nat), .int (x.2 : Nat)]) = .ok ((gaps (pR r) (cyc r) f0).map fun x => .int ((x.2 : Int) - (x.1 : Nat) - 1)) :=
    compL_all _ _ _ fun k hk => ⟨_, rfl, by simp only [body_eq, List.map_cons, List.map_nil, List.replicate, List.cons_append, List.nil_append, List.append_nil, R.bind_ok, R.bind_err, v_0, v_S, ev_C, ev_1, ev_2, av_N, av_C, ev_F, ev_None, ev_NotNone, ev_And, ev_Or, ev_Not, ev_If, ev_Chain, ev_Comp, ev_Tup, ev_Lst, tv_V, tv_And, tv_Or, tv_Not, tv_Yes, iv_Items, iv_A, gv_N, gv_T, gv_0, gv_C, Option.bind_some, wv_0, wv_C, at_n, at_r, at_e, wr_o, wr_e, st_Nx, st_Seq, st_Set, st_Asg, st_Drop, st_Ret, st_If, st_Raise, st_For, st_While, st_Par2, st_Par3, sto_f, sto_t, outO_s, List.set_cons_succ, List.set_cons_zero, asB_b, if_true, if_false, Bool.false_eq_true, Bool.not_true, Bool.not_false, items_l, items_t, bLen_l, bLen_t, bLen_s, bTuple_l, bTuple_t, bList_l, bList_t, idx_t, idx_l, at_0, at_1, rngA_1, rngA_2, isNone_n, isNone_i, isNone_t, isNone_l, lim0, lim1, lim2', lim3, List.length_cons, List.length_nil, Nat.reduceAdd, Nat.zero_add, isB_b, isNotB_b, ne_self okD_bl, eq_self okD_bl, decide_true, decide_false, sub_i]⟩
  have hgn : gaps (pR r) (cyc r) f0 ≠ [] := by
    rw [gaps, hf]
    exact fun e => by
      cases tl with
      | nil => simp [adj] at e
      | cons x tl => rw [List.cons_append, List.cons_append, adj_cons] at e; cases e
  have hz := zip_adj ((List.range (cyc r)).filter (pR r) ++ [f0 + cyc r])
  have hz : zipA [dN ((List.range (cyc r)).filter (pR r) ++ [f0 + cyc r]), .lst ((((List.range (cyc r)).filter (pR r) ++ [f0 + cyc r]).map fun k : Nat => D.int (k : Nat)).drop 1)] = .ok ((gaps (pR r) (cyc r) f0).map fun x => .tup [.int (x.1 : Nat), .int (x.2 : Nat)]) := hz
  have hmx := bMax_map (f := fun x : Nat × Nat => (x.2 : Int) - (x.1 : Nat) - 1) hgn
  rw [hg] at hmx
  refine body_rt ?_
  refine seq_to (?h1 : _ = Out.nx [some (dR r), none, none, none]) ?_
  case h1 => simp only [body_eq, List.map_cons, List.map_nil, List.replicate, List.cons_append, List.nil_append, List.append_nil, R.bind_ok, R.bind_err, v_0, v_S, ev_C, ev_1, ev_2, av_N, av_C, ev_F, ev_None, ev_NotNone, ev_And, ev_Or, ev_Not, ev_If, ev_Chain, ev_Comp, ev_Tup, ev_Lst, tv_V, tv_And, tv_Or, tv_Not, tv_Yes, iv_Items, iv_A, gv_N, gv_T, gv_0, gv_C, Option.bind_some, wv_0, wv_C, at_n, at_r, at_e, wr_o, wr_e, st_Nx, st_Seq, st_Set, st_Asg, st_Drop, st_Ret, st_If, st_Raise, st_For, st_While, st_Par2, st_Par3, sto_f, sto_t, outO_s, List.set_cons_succ, List.set_cons_zero, asB_b, if_true, if_false, Bool.false_eq_true, Bool.not_true, Bool.not_false, items_l, items_t, bLen_l, bLen_t, bLen_s, bTuple_l, bTuple_t, bList_l, bList_t, idx_t, idx_l, at_0, at_1, rngA_1, rngA_2, isNone_n, isNone_i, isNone_t, isNone_l, lim0, lim1, lim2', lim3, List.length_cons, List.length_nil, Nat.reduceAdd, Nat.zero_add, isB_b, isNotB_b, ne_self okD_bl, eq_self okD_bl, decide_true, decide_false, he]
  refine seq_to (?h1 : _ = Out.nx [some (dR r), none, none, none]) ?_
  case h1 => simp only [body_eq, List.map_cons, List.map_nil, List.replicate, List.cons_append, List.nil_append, List.append_nil, R.bind_ok, R.bind_err, v_0, v_S, ev_C, ev_1, ev_2, av_N, av_C, ev_F, ev_None, ev_NotNone, ev_And, ev_Or, ev_Not, ev_If, ev_Chain, ev_Comp, ev_Tup, ev_Lst, tv_V, tv_And, tv_Or, tv_Not, tv_Yes, iv_Items, iv_A, gv_N, gv_T, gv_0, gv_C, Option.bind_some, wv_0, wv_C, at_n, at_r, at_e, wr_o, wr_e, st_Nx, st_Seq, st_Set, st_Asg, st_Drop, st_Ret, st_If, st_Raise, st_For, st_While, st_Par2, st_Par3, sto_f, sto_t, outO_s, List.set_cons_succ, List.set_cons_zero, asB_b, if_true, if_false, Bool.false_eq_true, Bool.not_true, Bool.not_false, items_l, items_t, bLen_l, bLen_t, bLen_s, bTuple_l, bTuple_t, bList_l, bList_t, idx_t, idx_l, at_0, at_1, rngA_1, rngA_2, isNone_n, isNone_i, isNone_t, isNone_l, lim0, lim1, lim2', lim3, List.length_cons, List.length_nil, Nat.reduceAdd, Nat.zero_add, isB_b, isNotB_b, ne_self okD_bl, eq_self okD_bl, decide_true, decide_false, check_cycle_R h hc]
  refine seq_to (?h1 : _ = Out.nx [some (dR r), some (dN ((List.range (cyc r)).filter (pR r))), none, none]) ?_
  case h1 => 
    simp only [body_eq, List.map_cons, List.map_nil, List.replicate, List.cons_append, List.nil_append, List.append_nil, R.bind_ok, R.bind_err, v_0, v_S, ev_C, ev_1, ev_2, av_N, av_C, ev_F, ev_None, ev_NotNone, ev_And, ev_Or, ev_Not, ev_If, ev_Chain, ev_Comp, ev_Tup, ev_Lst, tv_V, tv_And, tv_Or, tv_Not, tv_Yes, iv_Items, iv_A, gv_N, gv_T, gv_0, gv_C, Option.bind_some, wv_0, wv_C, at_n, at_r, at_e, wr_o, wr_e, st_Nx, st_Seq, st_Set, st_Asg, st_Drop, st_Ret, st_If, st_Raise, st_For, st_While, st_Par2, st_Par3, sto_f, sto_t, outO_s, List.set_cons_succ, List.set_cons_zero, asB_b, if_true, if_false, Bool.false_eq_true, Bool.not_true, Bool.not_false, items_l, items_t, bLen_l, bLen_t, bLen_s, bTuple_l, bTuple_t, bList_l, bList_t, idx_t, idx_l, at_0, at_1, rngA_1, rngA_2, isNone_n, isNone_i, isNone_t, isNone_l, lim0, lim1, lim2', lim3, List.length_cons, List.length_nil, Nat.reduceAdd, Nat.zero_add, isB_b, isNotB_b, ne_self okD_bl, eq_self okD_bl, decide_true, decide_false, st_SetO, hft, dN]
  refine seq_to (?h1 : _ = Out.nx [some (dR r), some (dN ((List.range (cyc r)).filter (pR r) ++ [f0 + cyc r])), none, none]) ?_
  case h1 => 
    simp only [body_eq, List.map_cons, List.map_nil, List.replicate, List.cons_append, List.nil_append, List.append_nil, R.bind_ok, R.bind_err, v_0, v_S, ev_C, ev_1, ev_2, av_N, av_C, ev_F, ev_None, ev_NotNone, ev_And, ev_Or, ev_Not, ev_If, ev_Chain, ev_Comp, ev_Tup, ev_Lst, tv_V, tv_And, tv_Or, tv_Not, tv_Yes, iv_Items, iv_A, gv_N, gv_T, gv_0, gv_C, Option.bind_some, wv_0, wv_C, at_n, at_r, at_e, wr_o, wr_e, st_Nx, st_Seq, st_Set, st_Asg, st_Drop, st_Ret, st_If, st_Raise, st_For, st_While, st_Par2, st_Par3, sto_f, sto_t, outO_s, List.set_cons_succ, List.set_cons_zero, asB_b, if_true, if_false, Bool.false_eq_true, Bool.not_true, Bool.not_false, items_l, items_t, bLen_l, bLen_t, bLen_s, bTuple_l, bTuple_t, bList_l, bList_t, idx_t, idx_l, at_0, at_1, rngA_1, rngA_2, isNone_n, isNone_i, isNone_t, isNone_l, lim0, lim1, lim2', lim3, List.length_cons, List.length_nil, Nat.reduceAdd, Nat.zero_add, isB_b, isNotB_b, ne_self okD_bl, eq_self okD_bl, decide_true, decide_false, st_App, List.getElem?_cons_succ, List.getElem?_cons_zero, hi, find_cycle_R h.2, add_n]
    simp only [dN, body_eq, List.map_cons, List.map_nil, List.replicate, List.cons_append, List.nil_append, List.append_nil, R.bind_ok, R.bind_err, v_0, v_S, ev_C, ev_1, ev_2, av_N, av_C, ev_F, ev_None, ev_NotNone, ev_And, ev_Or, ev_Not, ev_If, ev_Chain, ev_Comp, ev_Tup, ev_Lst, tv_V, tv_And, tv_Or, tv_Not, tv_Yes, iv_Items, iv_A, gv_N, gv_T, gv_0, gv_C, Option.bind_some, wv_0, wv_C, at_n, at_r, at_e, wr_o, wr_e, st_Nx, st_Seq, st_Set, st_Asg, st_Drop, st_Ret, st_If, st_Raise, st_For, st_While, st_Par2, st_Par3, sto_f, sto_t, outO_s, List.set_cons_succ, List.set_cons_zero, asB_b, if_true, if_false, Bool.false_eq_true, Bool.not_true, Bool.not_false, items_l, items_t, bLen_l, bLen_t, bLen_s, bTuple_l, bTuple_t, bList_l, bList_t, idx_t, idx_l, at_0, at_1, rngA_1, rngA_2, isNone_n, isNone_i, isNone_t, isNone_l, lim0, lim1, lim2', lim3, List.length_cons, List.length_nil, Nat.reduceAdd, Nat.zero_add, isB_b, isNotB_b, ne_self okD_bl, eq_self okD_bl, decide_true, decide_false, if_pos hlen, happ]
  simp only [body_eq, List.map_cons, List.map_nil, List.replicate, List.cons_append, List.nil_append, List.append_nil, R.bind_ok, R.bind_err, v_0, v_S, ev_C, ev_1, ev_2, av_N, av_C, ev_F, ev_None, ev_NotNone, ev_And, ev_Or, ev_Not, ev_If, ev_Chain, ev_Comp, ev_Tup, ev_Lst, tv_V, tv_And, tv_Or, tv_Not, tv_Yes, iv_Items, iv_A, gv_N, gv_T, gv_0, gv_C, Option.bind_some, wv_0, wv_C, at_n, at_r, at_e, wr_o, wr_e, st_Nx, st_Seq, st_Set, st_Asg, st_Drop, st_Ret, st_If, st_Raise, st_For, st_While, st_Par2, st_Par3, sto_f, sto_t, outO_s, List.set_cons_succ, List.set_cons_zero, asB_b, if_true, if_false, Bool.false_eq_true, Bool.not_true, Bool.not_false, items_l, items_t, bLen_l, bLen_t, bLen_s, bTuple_l, bTuple_t, bList_l, bList_t, idx_t, idx_l, at_0, at_1, rngA_1, rngA_2, isNone_n, isNone_i, isNone_t, isNone_l, lim0, lim1, lim2', lim3, List.length_cons, List.length_nil, Nat.reduceAdd, Nat.zero_add, isB_b, isNotB_b, ne_self okD_bl, eq_self okD_bl, decide_true, decide_false, eCut, oN, oS, cut1, hz, cm, hmx]
theorem heard_modc {r : List A} (t : Nat) : heard r (t % cyc r) = heard r t := by
  have hq : ∀ q u, heard r (u + cyc r * q) = heard r u := fun q => by
    induction q with
    | zero => intro u; rfl
    | succ q ih => intro u; rw [Nat.mul_succ, ← Nat.add_assoc, heard_cyc, ih]
  rw [← hq (t / cyc r) (t % cyc r), Nat.mod_add_div]
/-! what it means -/
def gapR (r : List A) : Nat := best (pR r) (2 * cyc r)
theorem gap_ex (r : List A) : ∃ s, ∀ k, s ≤ k → k < s + gapR r → pR r k = false := by
  obtain ⟨t, ht, e⟩ := best_ex (pR r) (2 * cyc r)
  have h1 := cur_le (pR r) t
  refine ⟨t - cur (pR r) t, fun k k1 k2 => cur_silent (pR r) t k k1 ?_⟩
  rw [gapR, e] at k2; omega
theorem pR_mod {r : List A} (t : Nat) : pR r (t % cyc r) = pR r t := by rw [pR, pR, heard_modc]
theorem gap_ge {r : List A} (h : okR r) (hne : r ≠ []) {s c : Nat} (hs : ∀ k, s ≤ k → k < s + c → pR r k = false) : c ≤ gapR r := by
  obtain ⟨f0, tl, hf⟩ := times_ne h hne
  have hpos := cyc_pos h.2
  have h0 : f0 ∈ (List.range (cyc r)).filter (pR r) := by rw [hf]; simp
  have h0L := List.mem_range.mp (List.mem_filter.mp h0).1
  have h0p := (List.mem_filter.mp h0).2
  have hs' : ∀ k, s % cyc r ≤ k → k < s % cyc r + c → pR r k = false := fun k k1 k2 => by
    have e : pR r (k + cyc r * (s / cyc r)) = pR r k := by rw [← pR_mod, Nat.add_mul_mod_self_left, pR_mod]
    rw [← e]
    have := Nat.mod_add_div s (cyc r)
    exact hs _ (by omega) (by omega)
  have hlt := Nat.mod_lt s hpos
  have hc : c < cyc r := by
    rcases Nat.lt_or_ge c (cyc r) with q | q
    · exact q
    · exfalso
      by_cases q2 : s % cyc r ≤ f0
      · rw [hs' f0 q2 (by omega)] at h0p; cases h0p
      · have := hs' (f0 + cyc r) (by omega) (by omega)
        rw [pR, heard_cyc] at this
        rw [pR, this] at h0p; cases h0p
  have := cur_ge (pR r) (s % cyc r) c hs'
  exact Nat.le_trans this (le_best (pR r) (2 * cyc r) _ (by omega))
theorem pR_iff {r : List A} {t : Nat} : pR r t = true ↔ ∃ a ∈ r, ringsAt a t = true := by
  rw [pR, Bool.not_eq_true', ← Bool.not_eq_true, List.isEmpty_iff, ← List.length_eq_zero_iff, heard_len, List.countP_eq_zero]
  constructor
  · intro h
    apply Classical.byContradiction
    intro h2
    exact h fun a ha hr => h2 ⟨a, ha, hr⟩
  · rintro ⟨a, ha, hr⟩ h
    exact h a ha hr
theorem pR_false {r : List A} {t : Nat} : pR r t = false ↔ ∀ a ∈ r, ringsAt a t = false := by
  rw [← Bool.not_eq_true, pR_iff]
  constructor
  · intro h a ha
    cases hr : ringsAt a t with
    | false => rfl
    | true => exact absurd ⟨a, ha, hr⟩ h
  · rintro h ⟨a, ha, hr⟩
    rw [h a ha] at hr; cases hr
/-- more alarms, less silence -/
theorem gap_mono {r r' : List A} (h : okR r) (hne : r ≠ []) (hm : ∀ a ∈ r, a ∈ r') : gapR r' ≤ gapR r := by
  obtain ⟨s, hs⟩ := gap_ex r'
  exact gap_ge h hne fun k k1 k2 => pR_false.mpr fun a ha => pR_false.mp (hs k k1 k2) a (hm a ha)
theorem gap_lt {r : List A} (h : okR r) {a : A} (ha : a ∈ r) : gapR r < a.1 := by
  obtain ⟨s, hs⟩ := gap_ex r
  have hok := h.2 a ha
  rcases Nat.lt_or_ge (gapR r) a.1 with q | q
  · exact q
  · exfalso
    have hp := hok.1
    have hsh := hok.2.2
    have hm := Nat.mod_lt s hp
    have hd := Nat.mod_add_div s a.1
    have hr : ∃ t, s ≤ t ∧ t < s + a.1 ∧ ringsAt a t = true := by
      by_cases q2 : s % a.1 ≤ a.2
      · refine ⟨a.2 + a.1 * (s / a.1), by omega, by omega, ?_⟩
        rw [rings_iff, Nat.add_mul_mod_self_left, Nat.mod_eq_of_lt hsh]
      · refine ⟨a.2 + a.1 * (s / a.1 + 1), by rw [Nat.mul_add]; omega, by rw [Nat.mul_add]; omega, ?_⟩
        rw [rings_iff, Nat.add_mul_mod_self_left, Nat.mod_eq_of_lt hsh]
    obtain ⟨t, t1, t2, t3⟩ := hr
    have := pR_false.mp (hs t t1 (by omega)) a ha
    rw [t3] at this; cases this
/-- all moved alike -/
theorem gap_mv {r : List A} (h : okR r) (hne : r ≠ []) (k : Nat) : gapR (r.map (mv k)) = gapR r := by
  have hmv := okR_mv (k := k) h
  have hp : ∀ t, pR (r.map (mv k)) (t + k) = pR r t := fun t => by rw [pR, pR, heard_mv h.2]
  have h1 : gapR r ≤ gapR (r.map (mv k)) := by
    obtain ⟨s, hs⟩ := gap_ex r
    refine gap_ge hmv (by simpa using hne) (s := s + k) fun j j1 j2 => ?_
    rw [show j = (j - k) + k by omega, hp]
    exact hs _ (by omega) (by omega)
  have h2 : gapR (r.map (mv k)) ≤ gapR r := by
    obtain ⟨s, hs⟩ := gap_ex (r.map (mv k))
    have hpos := cyc_pos hmv.2
    have hk : k ≤ cyc (r.map (mv k)) * k := Nat.le_mul_of_pos_left k hpos
    refine gap_ge h hne (s := s + cyc (r.map (mv k)) * k - k) fun j j1 j2 => ?_
    rw [← hp, ← pR_mod]
    have e : (j + k) % cyc (r.map (mv k)) = (j + k - cyc (r.map (mv k)) * k) % cyc (r.map (mv k)) := by
      conv => lhs; rw [show j + k = (j + k - cyc (r.map (mv k)) * k) + cyc (r.map (mv k)) * k by omega]
      rw [Nat.add_mul_mod_self_left]
    rw [e, pR_mod]
    exact hs _ (by omega) (by omega)
  omega
end RT

namespace RT
/-! S19: shifts that cover -/
theorem loopF_pre {α : Type} {g : GF} {b : SF} (inj : α → D) (S : List α → Env → Prop) : ∀ (l pre : List α) (ρ : Env), S pre ρ →
    (∀ p x suf, pre ++ l = p ++ x :: suf → ∀ ρ, S p ρ → ∃ ρ1 ρ2, g (inj x) ρ = some ρ1 ∧ b ρ1 = .nx ρ2 ∧ S (p ++ [x]) ρ2) → ∃ ρ', loopF g b (l.map inj) ρ = .nx ρ' ∧ S (pre ++ l) ρ'
  | [], pre, ρ, h, _ => ⟨ρ, rfl, by rwa [List.append_nil]⟩
  | x :: l, pre, ρ, h, st => by
    obtain ⟨ρ1, ρ2, e1, e2, h2⟩ := st pre x l rfl ρ h
    obtain ⟨ρ', e3, h3⟩ := loopF_pre inj S l (pre ++ [x]) ρ2 h2 fun p y suf e => st p y suf (by rw [← e, List.append_assoc]; rfl)
    refine ⟨ρ', ?_, by rwa [List.append_assoc] at h3⟩
    simp only [List.map_cons, loopF, e1, e2, at_n, e3]
/-- shifts below their periods -/
def Fit : List Nat → List Nat → Prop
  | [], [] => True
  | s :: ss, p :: ps => s < p ∧ Fit ss ps
  | _, _ => False
theorem Fit.len : ∀ {ss ps : List Nat}, Fit ss ps → ss.length = ps.length
  | [], [], _ => rfl
  | s :: ss, p :: ps, h => by rw [List.length_cons, List.length_cons, Fit.len h.2]
theorem Fit.okR : ∀ {ss ps : List Nat}, Fit ss ps → ∀ a ∈ ps.zip ss, a.2 < a.1 ∧ a.1 ∈ ps
  | [], [], _, a, h => by simp at h
  | s :: ss, p :: ps, h, a, ha => by
    rw [List.zip_cons_cons] at ha
    rcases List.mem_cons.mp ha with e | ha
    · rw [e]; exact ⟨h.1, by simp⟩
    · obtain ⟨h1, h2⟩ := Fit.okR h.2 a ha
      exact ⟨h1, List.mem_cons_of_mem _ h2⟩
def mulL (ps : List Nat) : Nat := ps.foldl (· * ·) 1
structure okP (ps : List Nat) : Prop where
  ne : ps ≠ []
  len : ps.length ≤ 4
  rng : ∀ p ∈ ps, 1 ≤ p ∧ p ≤ 8
  mul : mulL ps ≤ 600
theorem zip_okR {ss ps : List Nat} (h : okP ps) (f : Fit ss ps) : okR (ps.zip ss) := ⟨by
  rw [List.length_zip]; have := h.len; omega, fun a ha => by
  obtain ⟨h1, h2⟩ := f.okR a ha
  have := h.rng _ h2
  exact ⟨this.1, by omega, h1⟩⟩
theorem zip_ne {ss ps : List Nat} (h : okP ps) (f : Fit ss ps) : ps.zip ss ≠ [] := fun e => by
  have h1 := congrArg List.length e
  rw [List.length_zip, f.len, Nat.min_self, List.length_nil] at h1
  exact h.ne (List.eq_nil_of_length_eq_zero h1)
theorem zip_cyc {ss ps : List Nat} (h : okP ps) (f : Fit ss ps) : cyc (ps.zip ss) ≤ 5000 := by
  have := cyc_pow (p := 8) (n := 4) (r := ps.zip ss) (fun a ha => by
    obtain ⟨h1, h2⟩ := f.okR a ha
    exact h.rng _ h2) (by decide) (by rw [List.length_zip]; have := h.len; omega)
  exact Nat.le_trans this (by decide)
theorem zipL_G (ps ss : List Nat) : D.bZipL [dG ps, dG ss] = .ok (.lst ((ps.zip ss).map dA)) := by
  show R.ok (D.lst (zipD (ps.map fun k => .int (k : Nat)) (ss.map fun k => .int (k : Nat)))) = _
  rw [zipD, List.zip_map, List.map_map]
  rfl
/-- the silence of these shifts -/
def gapS (ps ss : List Nat) : Nat := gapR (ps.zip ss)
theorem silence_of_R {ps ss : List Nat} (h : okP ps) (f : Fit ss ps) : PP.d_silence_of [dG ps, dG ss] = .ok (.int (gapS ps ss : Nat)) := by
  have hl := longest_silence_R (zip_okR h f) (zip_cyc h f) (zip_ne h f)
  have hl : PP.d_longest_silence [.tup ((ps.zip ss).map dA)] = .ok (.int (gapS ps ss : Nat)) := hl
  simp only [PP.d_silence_of, PP.s_silence_of, body_eq, List.map_cons, List.map_nil, List.replicate, List.cons_append, List.nil_append, List.append_nil, R.bind_ok, R.bind_err, v_0, v_S, ev_C, ev_1, ev_2, av_N, av_C, ev_F, ev_None, ev_NotNone, ev_And, ev_Or, ev_Not, ev_If, ev_Chain, ev_Comp, ev_Tup, ev_Lst, tv_V, tv_And, tv_Or, tv_Not, tv_Yes, iv_Items, iv_A, gv_N, gv_T, gv_0, gv_C, Option.bind_some, wv_0, wv_C, at_n, at_r, at_e, wr_o, wr_e, st_Nx, st_Seq, st_Set, st_Asg, st_Drop, st_Ret, st_If, st_Raise, st_For, st_While, st_Par2, st_Par3, sto_f, sto_t, outO_s, List.set_cons_succ, List.set_cons_zero, asB_b, if_true, if_false, Bool.false_eq_true, Bool.not_true, Bool.not_false, items_l, items_t, bLen_l, bLen_t, bLen_s, bTuple_l, bTuple_t, bList_l, bList_t, idx_t, idx_l, at_0, at_1, rngA_1, rngA_2, isNone_n, isNone_i, isNone_t, isNone_l, lim0, lim1, lim2', lim3, List.length_cons, List.length_nil, Nat.reduceAdd, Nat.zero_add, isB_b, isNotB_b, ne_self okD_bl, eq_self okD_bl, decide_true, decide_false, zipL_G, hl]
theorem gapS_lt {ps ss : List Nat} (h : okP ps) (f : Fit ss ps) {p : Nat} (hp : p ∈ ps) : gapS ps ss < p := by
  obtain ⟨i, hi, e⟩ := List.mem_iff_getElem.mp hp
  have hz : i < (ps.zip ss).length := by rw [List.length_zip, f.len]; omega
  have hm : (ps.zip ss)[i] ∈ ps.zip ss := List.getElem_mem hz
  have := gap_lt (zip_okR h f) hm
  rw [List.getElem_zip] at this
  rw [← e]; exact this
theorem gapS_8 {ps ss : List Nat} (h : okP ps) (f : Fit ss ps) : gapS ps ss < 8 := by
  obtain ⟨p, hp⟩ := List.exists_mem_of_ne_nil ps h.ne
  have := gapS_lt h f hp
  have := h.rng p hp
  omega
theorem isI_G (ps : List Nat) : D.isI .tuple (dG ps) = .ok (.bl true) := rfl
theorem itemsG (ps : List Nat) : D.items (dG ps) = .ok (ps.map fun k => .int (k : Nat)) := rfl
theorem check_short_R {ps : List Nat} (h1 : ps ≠ []) (h2 : ps.length ≤ 4) (h3 : ∀ p ∈ ps, 1 ≤ p ∧ p ≤ 8) : PP.d_check_short [dG ps] = .ok .non := by
  have hp := List.length_pos_iff.mpr h1
  have g1 : decide ((1 : Int) ≤ (ps.length : Nat)) = true := decide_eq_true (by omega)
  have g2 : decide (((ps.length : Nat) : Int) ≤ 4) = true := decide_eq_true (by omega)
  have cm : compL (gN 1) tYesF (eF PP.d_is_int (aC (eV 1) (aC (eC (.int 1)) (aC (eC (.int 8)) aN)))) [some (dG ps), none] (ps.map fun k => .int (k : Nat)) = .ok (ps.map fun k => .bl true) :=
    compL_all _ _ _ fun k hk => ⟨_, rfl, by
      have := h3 k hk
      have g1 : decide ((1 : Int) ≤ (k : Nat)) = true := decide_eq_true (by omega)
      have g2 : decide (((k : Nat) : Int) ≤ 8) = true := decide_eq_true (by omega)
      simp only [body_eq, List.map_cons, List.map_nil, List.replicate, List.cons_append, List.nil_append, List.append_nil, R.bind_ok, R.bind_err, v_0, v_S, ev_C, ev_1, ev_2, av_N, av_C, ev_F, ev_None, ev_NotNone, ev_And, ev_Or, ev_Not, ev_If, ev_Chain, ev_Comp, ev_Tup, ev_Lst, tv_V, tv_And, tv_Or, tv_Not, tv_Yes, iv_Items, iv_A, gv_N, gv_T, gv_0, gv_C, Option.bind_some, wv_0, wv_C, at_n, at_r, at_e, wr_o, wr_e, st_Nx, st_Seq, st_Set, st_Asg, st_Drop, st_Ret, st_If, st_Raise, st_For, st_While, st_Par2, st_Par3, sto_f, sto_t, outO_s, List.set_cons_succ, List.set_cons_zero, asB_b, if_true, if_false, Bool.false_eq_true, Bool.not_true, Bool.not_false, items_l, items_t, bLen_l, bLen_t, bLen_s, bTuple_l, bTuple_t, bList_l, bList_t, idx_t, idx_l, at_0, at_1, rngA_1, rngA_2, isNone_n, isNone_i, isNone_t, isNone_l, lim0, lim1, lim2', lim3, List.length_cons, List.length_nil, Nat.reduceAdd, Nat.zero_add, isB_b, isNotB_b, ne_self okD_bl, eq_self okD_bl, decide_true, decide_false, is_int_ok, g1, g2, Bool.and_true]⟩
  have hb := bAll_map (f := fun k : Nat => true) (xs := ps)
  have ha : ps.all (fun _ => true) = true := by simp
  rw [ha] at hb
  simp only [PP.d_check_short, PP.s_check_short, body_eq, List.map_cons, List.map_nil, List.replicate, List.cons_append, List.nil_append, List.append_nil, R.bind_ok, R.bind_err, v_0, v_S, ev_C, ev_1, ev_2, av_N, av_C, ev_F, ev_None, ev_NotNone, ev_And, ev_Or, ev_Not, ev_If, ev_Chain, ev_Comp, ev_Tup, ev_Lst, tv_V, tv_And, tv_Or, tv_Not, tv_Yes, iv_Items, iv_A, gv_N, gv_T, gv_0, gv_C, Option.bind_some, wv_0, wv_C, at_n, at_r, at_e, wr_o, wr_e, st_Nx, st_Seq, st_Set, st_Asg, st_Drop, st_Ret, st_If, st_Raise, st_For, st_While, st_Par2, st_Par3, sto_f, sto_t, outO_s, List.set_cons_succ, List.set_cons_zero, asB_b, if_true, if_false, Bool.false_eq_true, Bool.not_true, Bool.not_false, items_l, items_t, bLen_l, bLen_t, bLen_s, bTuple_l, bTuple_t, bList_l, bList_t, idx_t, idx_l, at_0, at_1, rngA_1, rngA_2, isNone_n, isNone_i, isNone_t, isNone_l, lim0, lim1, lim2', lim3, List.length_cons, List.length_nil, Nat.reduceAdd, Nat.zero_add, isB_b, isNotB_b, ne_self okD_bl, eq_self okD_bl, decide_true, decide_false, isI_G, lenG, le_i, g1, g2, itemsG, cm, hb]
theorem okP.short {ps : List Nat} (h : okP ps) : PP.d_check_short [dG ps] = .ok .non := check_short_R h.ne h.len h.rng
theorem mulL_snoc (ps : List Nat) (p : Nat) : mulL (ps ++ [p]) = mulL ps * p := by rw [mulL, List.foldl_append]; rfl
theorem mulL_pow : ∀ (n : Nat) (ps : List Nat), ps.length ≤ n → (∀ p ∈ ps, p ≤ 8) → mulL ps ≤ 8 ^ n := fun n ps => by
  have : ∀ (ps : List Nat) (n c k : Nat), ps.length ≤ n → (∀ p ∈ ps, p ≤ 8) → c ≤ 8 ^ k → ps.foldl (· * ·) c ≤ 8 ^ (k + n) := fun ps => by
    induction ps with
    | nil => intro n c k _ _ hc; exact Nat.le_trans hc (Nat.pow_le_pow_right (by decide) (by omega))
    | cons p ps ih =>
      intro n c k hl hp hc
      have hn : 1 ≤ n := by rw [List.length_cons] at hl; omega
      have := ih (n - 1) (c * p) (k + 1) (by rw [List.length_cons] at hl; omega) (fun q hq => hp q (List.mem_cons_of_mem _ hq)) (by rw [Nat.pow_succ]; exact Nat.mul_le_mul hc (hp p (by simp)))
      rw [show k + 1 + (n - 1) = k + n by omega] at this
      exact this
  intro hl hp
  have := this ps n 1 0 hl hp (by decide)
  rwa [Nat.zero_add] at this
theorem check_product_b_R {ps : List Nat} (h : okP ps) : PP.d_check_product_b [dG ps] = .ok .non := by
  obtain ⟨ρ', el, y2, q⟩ := loopF_pre (g := gN 2) (b := PP.b_check_product_b_1) (fun k : Nat => .int (k : Nat)) (fun p ρ => ∃ y2, ρ = [some (dG ps), some (.int (mulL p : Nat)), y2]) ps [] [some (dG ps), some (.int 1), none] ⟨none, rfl⟩ (by
    rintro p x suf hp ρ ⟨y2, rfl⟩
    rw [List.nil_append] at hp
    have hx := h.rng x (by rw [hp]; simp)
    have hl := h.len
    have hpl : p.length ≤ 4 := by rw [hp, List.length_append] at hl; omega
    have hm := mulL_pow 4 p hpl fun q hq => (h.rng q (by rw [hp]; simp [hq])).2
    have hm : mulL p ≤ 4096 := hm
    have hmul : D.mul (.int (mulL p : Nat)) (.int (x : Nat)) = .ok (.int (mulL (p ++ [x]) : Nat)) := by rw [mul_n (by omega), mulL_snoc]
    refine ⟨_, [some (dG ps), some (.int (mulL (p ++ [x]) : Nat)), some (.int (x : Nat))], rfl, ?_, ⟨_, rfl⟩⟩
    simp only [PP.b_check_product_b_1, body_eq, List.map_cons, List.map_nil, List.replicate, List.cons_append, List.nil_append, List.append_nil, R.bind_ok, R.bind_err, v_0, v_S, ev_C, ev_1, ev_2, av_N, av_C, ev_F, ev_None, ev_NotNone, ev_And, ev_Or, ev_Not, ev_If, ev_Chain, ev_Comp, ev_Tup, ev_Lst, tv_V, tv_And, tv_Or, tv_Not, tv_Yes, iv_Items, iv_A, gv_N, gv_T, gv_0, gv_C, Option.bind_some, wv_0, wv_C, at_n, at_r, at_e, wr_o, wr_e, st_Nx, st_Seq, st_Set, st_Asg, st_Drop, st_Ret, st_If, st_Raise, st_For, st_While, st_Par2, st_Par3, sto_f, sto_t, outO_s, List.set_cons_succ, List.set_cons_zero, asB_b, if_true, if_false, Bool.false_eq_true, Bool.not_true, Bool.not_false, items_l, items_t, bLen_l, bLen_t, bLen_s, bTuple_l, bTuple_t, bList_l, bList_t, idx_t, idx_l, at_0, at_1, rngA_1, rngA_2, isNone_n, isNone_i, isNone_t, isNone_l, lim0, lim1, lim2', lim3, List.length_cons, List.length_nil, Nat.reduceAdd, Nat.zero_add, isB_b, isNotB_b, ne_self okD_bl, eq_self okD_bl, decide_true, decide_false, hmul])
  subst q
  have hgt : decide ((600 : Int) < (mulL ps : Nat)) = false := decide_eq_false (by have := h.mul; omega)
  have el : loopF (gN 2) PP.b_check_product_b_1 (ps.map fun k => .int (k : Nat)) [some (dG ps), some (.int 1), none] = .nx [some (dG ps), some (.int (mulL ps : Nat)), y2] := el
  simp only [PP.d_check_product_b, PP.s_check_product_b, body_eq, List.map_cons, List.map_nil, List.replicate, List.cons_append, List.nil_append, List.append_nil, R.bind_ok, R.bind_err, v_0, v_S, ev_C, ev_1, ev_2, av_N, av_C, ev_F, ev_None, ev_NotNone, ev_And, ev_Or, ev_Not, ev_If, ev_Chain, ev_Comp, ev_Tup, ev_Lst, tv_V, tv_And, tv_Or, tv_Not, tv_Yes, iv_Items, iv_A, gv_N, gv_T, gv_0, gv_C, Option.bind_some, wv_0, wv_C, at_n, at_r, at_e, wr_o, wr_e, st_Nx, st_Seq, st_Set, st_Asg, st_Drop, st_Ret, st_If, st_Raise, st_For, st_While, st_Par2, st_Par3, sto_f, sto_t, outO_s, List.set_cons_succ, List.set_cons_zero, asB_b, if_true, if_false, Bool.false_eq_true, Bool.not_true, Bool.not_false, items_l, items_t, bLen_l, bLen_t, bLen_s, bTuple_l, bTuple_t, bList_l, bList_t, idx_t, idx_l, at_0, at_1, rngA_1, rngA_2, isNone_n, isNone_i, isNone_t, isNone_l, lim0, lim1, lim2', lim3, List.length_cons, List.length_nil, Nat.reduceAdd, Nat.zero_add, isB_b, isNotB_b, ne_self okD_bl, eq_self okD_bl, decide_true, decide_false, h.short, itemsG, el, gt_i, hgt]
theorem zip_GG (ss ps : List Nat) : zipA [dG ss, dG ps] = .ok ((ss.zip ps).map fun x => .tup [.int (x.1 : Nat), .int (x.2 : Nat)]) := by
  show R.ok (zipD (ss.map fun k => .int (k : Nat)) (ps.map fun k => .int (k : Nat))) = _
  rw [zipD, List.zip_map, List.map_map]
  rfl
def fitB (ss ps : List Nat) : Bool := (ss.zip ps).all fun x => decide (x.1 < x.2)
theorem Fit.all : ∀ {ss ps : List Nat}, Fit ss ps → fitB ss ps = true
  | [], [], _ => rfl
  | s :: ss, p :: ps, h => by
    have := Fit.all h.2
    rw [fitB, List.zip_cons_cons, List.all_cons, decide_eq_true h.1, Bool.true_and]; exact this
theorem are_shifts_G (ps ss : List Nat) (hl : ss.length = ps.length) : PP.d_are_shifts [dG ps, dG ss] = .ok (.bl (fitB ss ps)) := by
  have cm : compL (gT (gsC (gN 2) (gsC (gN 3) gs0))) tYesF (eF PP.d_is_int (aC (eV 2) (aC (eC (.int 0)) (aC (e2 D.sub (eV 3) (eC (.int 1))) aN)))) [some (dG ps), some (dG ss), none, none] ((ss.zip ps).map fun x => .tup [.int (x.1 : Nat), .int (x.2 : Nat)]) = .ok ((ss.zip ps).map fun x => .bl (decide (x.1 < x.2))) :=
    compL_all _ _ _ fun x _ => ⟨_, rfl, by
      have g1 : decide ((0 : Int) ≤ (x.1 : Nat)) = true := decide_eq_true (by omega)
      have g2 : decide (((x.1 : Nat) : Int) ≤ (x.2 : Nat) - 1) = decide (x.1 < x.2) := by
        rw [Bool.eq_iff_iff, decide_eq_true_eq, decide_eq_true_eq]; omega
      simp only [body_eq, List.map_cons, List.map_nil, List.replicate, List.cons_append, List.nil_append, List.append_nil, R.bind_ok, R.bind_err, v_0, v_S, ev_C, ev_1, ev_2, av_N, av_C, ev_F, ev_None, ev_NotNone, ev_And, ev_Or, ev_Not, ev_If, ev_Chain, ev_Comp, ev_Tup, ev_Lst, tv_V, tv_And, tv_Or, tv_Not, tv_Yes, iv_Items, iv_A, gv_N, gv_T, gv_0, gv_C, Option.bind_some, wv_0, wv_C, at_n, at_r, at_e, wr_o, wr_e, st_Nx, st_Seq, st_Set, st_Asg, st_Drop, st_Ret, st_If, st_Raise, st_For, st_While, st_Par2, st_Par3, sto_f, sto_t, outO_s, List.set_cons_succ, List.set_cons_zero, asB_b, if_true, if_false, Bool.false_eq_true, Bool.not_true, Bool.not_false, items_l, items_t, bLen_l, bLen_t, bLen_s, bTuple_l, bTuple_t, bList_l, bList_t, idx_t, idx_l, at_0, at_1, rngA_1, rngA_2, isNone_n, isNone_i, isNone_t, isNone_l, lim0, lim1, lim2', lim3, List.length_cons, List.length_nil, Nat.reduceAdd, Nat.zero_add, isB_b, isNotB_b, ne_self okD_bl, eq_self okD_bl, decide_true, decide_false, sub_i, is_int_ok, g1, g2, Bool.true_and]⟩
  have hb := bAll_map (f := fun x : Nat × Nat => decide (x.1 < x.2)) (xs := ss.zip ps)
  have hne : D.ne (.int (ss.length : Nat)) (.int (ps.length : Nat)) = .ok (.bl false) := by rw [hl]; exact ne_self okD_int
  simp only [PP.d_are_shifts, PP.s_are_shifts, body_eq, List.map_cons, List.map_nil, List.replicate, List.cons_append, List.nil_append, List.append_nil, R.bind_ok, R.bind_err, v_0, v_S, ev_C, ev_1, ev_2, av_N, av_C, ev_F, ev_None, ev_NotNone, ev_And, ev_Or, ev_Not, ev_If, ev_Chain, ev_Comp, ev_Tup, ev_Lst, tv_V, tv_And, tv_Or, tv_Not, tv_Yes, iv_Items, iv_A, gv_N, gv_T, gv_0, gv_C, Option.bind_some, wv_0, wv_C, at_n, at_r, at_e, wr_o, wr_e, st_Nx, st_Seq, st_Set, st_Asg, st_Drop, st_Ret, st_If, st_Raise, st_For, st_While, st_Par2, st_Par3, sto_f, sto_t, outO_s, List.set_cons_succ, List.set_cons_zero, asB_b, if_true, if_false, Bool.false_eq_true, Bool.not_true, Bool.not_false, items_l, items_t, bLen_l, bLen_t, bLen_s, bTuple_l, bTuple_t, bList_l, bList_t, idx_t, idx_l, at_0, at_1, rngA_1, rngA_2, isNone_n, isNone_i, isNone_t, isNone_l, lim0, lim1, lim2', lim3, List.length_cons, List.length_nil, Nat.reduceAdd, Nat.zero_add, isB_b, isNotB_b, ne_self okD_bl, eq_self okD_bl, decide_true, decide_false, isI_G, lenG, hne, zip_GG, cm, hb]
  rfl
theorem are_shifts_R {ps ss : List Nat} (f : Fit ss ps) : PP.d_are_shifts [dG ps, dG ss] = .ok (.bl true) := by rw [are_shifts_G ps ss f.len, f.all]
theorem do_cover_R {ps ss : List Nat} (h : okP ps) (f : Fit ss ps) {k : Nat} (hk : k ≤ 8) : PP.d_do_cover [dG ps, dG ss, .int (k : Nat)] = .ok (.bl (decide (gapS ps ss ≤ k))) := by
  have hc : PP.d_check_number [.int (k : Nat), .int 0, .int 8] = .ok .non := check_number_ok (by omega) (by omega)
  have g : decide (((gapS ps ss : Nat) : Int) ≤ (k : Nat)) = decide (gapS ps ss ≤ k) := by simp only [Int.ofNat_le]
  simp only [PP.d_do_cover, PP.s_do_cover, body_eq, List.map_cons, List.map_nil, List.replicate, List.cons_append, List.nil_append, List.append_nil, R.bind_ok, R.bind_err, v_0, v_S, ev_C, ev_1, ev_2, av_N, av_C, ev_F, ev_None, ev_NotNone, ev_And, ev_Or, ev_Not, ev_If, ev_Chain, ev_Comp, ev_Tup, ev_Lst, tv_V, tv_And, tv_Or, tv_Not, tv_Yes, iv_Items, iv_A, gv_N, gv_T, gv_0, gv_C, Option.bind_some, wv_0, wv_C, at_n, at_r, at_e, wr_o, wr_e, st_Nx, st_Seq, st_Set, st_Asg, st_Drop, st_Ret, st_If, st_Raise, st_For, st_While, st_Par2, st_Par3, sto_f, sto_t, outO_s, List.set_cons_succ, List.set_cons_zero, asB_b, if_true, if_false, Bool.false_eq_true, Bool.not_true, Bool.not_false, items_l, items_t, bLen_l, bLen_t, bLen_s, bTuple_l, bTuple_t, bList_l, bList_t, idx_t, idx_l, at_0, at_1, rngA_1, rngA_2, isNone_n, isNone_i, isNone_t, isNone_l, lim0, lim1, lim2', lim3, List.length_cons, List.length_nil, Nat.reduceAdd, Nat.zero_add, isB_b, isNotB_b, ne_self okD_bl, eq_self okD_bl, decide_true, decide_false, h.short, hc, are_shifts_R f, silence_of_R h f, le_i, g]
theorem fewest_alike_R {p k : Nat} (h1 : 1 ≤ p) (h2 : p ≤ 60) (hk : k ≤ 60) : PP.d_fewest_alike [.int (p : Nat), .int (k : Nat)] = .ok (.int (((p + k) / (k + 1) : Nat) : Int)) := by
  have hc1 : PP.d_check_number [.int (p : Nat), .int 1, .int 60] = .ok .non := check_number_ok (by omega) (by omega)
  have hc2 : PP.d_check_number [.int (k : Nat), .int 0, .int 60] = .ok .non := check_number_ok (by omega) (by omega)
  have hd : D.fdiv (.int ((p + k : Nat) : Int)) (.int ((k + 1 : Nat) : Int)) = .ok (.int (((p + k) / (k + 1) : Nat) : Int)) := by
    rw [fdiv_i (by omega) (by omega), Int.natCast_ediv]
  simp only [PP.d_fewest_alike, PP.s_fewest_alike, body_eq, List.map_cons, List.map_nil, List.replicate, List.cons_append, List.nil_append, List.append_nil, R.bind_ok, R.bind_err, v_0, v_S, ev_C, ev_1, ev_2, av_N, av_C, ev_F, ev_None, ev_NotNone, ev_And, ev_Or, ev_Not, ev_If, ev_Chain, ev_Comp, ev_Tup, ev_Lst, tv_V, tv_And, tv_Or, tv_Not, tv_Yes, iv_Items, iv_A, gv_N, gv_T, gv_0, gv_C, Option.bind_some, wv_0, wv_C, at_n, at_r, at_e, wr_o, wr_e, st_Nx, st_Seq, st_Set, st_Asg, st_Drop, st_Ret, st_If, st_Raise, st_For, st_While, st_Par2, st_Par3, sto_f, sto_t, outO_s, List.set_cons_succ, List.set_cons_zero, asB_b, if_true, if_false, Bool.false_eq_true, Bool.not_true, Bool.not_false, items_l, items_t, bLen_l, bLen_t, bLen_s, bTuple_l, bTuple_t, bList_l, bList_t, idx_t, idx_l, at_0, at_1, rngA_1, rngA_2, isNone_n, isNone_i, isNone_t, isNone_l, lim0, lim1, lim2', lim3, List.length_cons, List.length_nil, Nat.reduceAdd, Nat.zero_add, isB_b, isNotB_b, ne_self okD_bl, eq_self okD_bl, decide_true, decide_false, hc1, hc2, add_n, add_one', hd]
/-! the best -/
def stepC (found : List (List Nat)) (p : Nat) : List (List Nat) := found.flatMap fun ss => (List.range p).map fun s => ss ++ [s]
def cands (tl : List Nat) : List (List Nat) := tl.foldl stepC [[0]]
theorem mem_step : ∀ {tl : List Nat} {found : List (List Nat)} {ss : List Nat}, ss ∈ tl.foldl stepC found ↔ ∃ pre ∈ found, ∃ suf, ss = pre ++ suf ∧ Fit suf tl
  | [], found, ss => by
    constructor
    · intro h; exact ⟨ss, h, [], by simp, trivial⟩
    · rintro ⟨pre, h1, suf, rfl, h2⟩
      cases suf with
      | nil => simpa using h1
      | cons s suf => exact h2.elim
  | p :: tl, found, ss => by
    rw [List.foldl_cons, mem_step]
    constructor
    · rintro ⟨pre, h1, suf, rfl, h2⟩
      rw [stepC, List.mem_flatMap] at h1
      obtain ⟨pre', h3, h4⟩ := h1
      obtain ⟨s, h5, rfl⟩ := List.mem_map.mp h4
      exact ⟨pre', h3, s :: suf, by simp, List.mem_range.mp h5, h2⟩
    · rintro ⟨pre, h1, suf, rfl, h2⟩
      cases suf with
      | nil => exact h2.elim
      | cons s suf =>
        refine ⟨pre ++ [s], ?_, suf, by simp, h2.2⟩
        rw [stepC, List.mem_flatMap]
        exact ⟨pre, h1, List.mem_map.mpr ⟨s, List.mem_range.mpr h2.1, rfl⟩⟩
theorem mem_cands {p : Nat} (hp : 1 ≤ p) {tl ss : List Nat} : ss ∈ cands tl ↔ Fit ss (p :: tl) ∧ ss.head? = some 0 := by
  rw [cands, mem_step]
  constructor
  · rintro ⟨pre, h1, suf, rfl, h2⟩
    rw [List.mem_singleton.mp h1]
    exact ⟨⟨by omega, h2⟩, rfl⟩
  · rintro ⟨h1, h2⟩
    cases ss with
    | nil => cases h2
    | cons s ss =>
      cases h2
      exact ⟨[0], by simp, ss, rfl, h1.2⟩
theorem step_len (found : List (List Nat)) (p : Nat) : (stepC found p).length = found.length * p := by
  induction found with
  | nil => simp [stepC]
  | cons ss found ih =>
    rw [stepC, List.flatMap_cons, List.length_append, List.length_map, List.length_range]
    have : (List.flatMap (fun ss => (List.range p).map fun s => ss ++ [s]) found).length = (stepC found p).length := rfl
    rw [this, ih, List.length_cons, Nat.add_mul]; omega
theorem compL2_ok {α : Type} {g : GF} {src : AF} {vs1 : List Nat} {g1 : GF} {e : EF} {ρ : Env} (inj : α → D) (out : α → List D) : ∀ l : List α,
    (∀ x ∈ l, ∃ ρ1 xs1, g (inj x) ρ = some ρ1 ∧ src ρ1 = .ok xs1 ∧ compL g1 tYesF e (wipeE ρ1 vs1) xs1 = .ok (out x)) → compL2 g src vs1 g1 e ρ (l.map inj) = .ok (l.flatMap out)
  | [], _ => rfl
  | x :: l, h => by
    obtain ⟨ρ1, xs1, h1, h2, h3⟩ := h x (by simp)
    have ih := compL2_ok inj out l fun y hy => h y (by simp [hy])
    rw [List.map_cons]
    unfold compL2
    rw [h1]
    simp only [h2, h3, ih, List.flatMap_cons]
theorem lt_trans' {a b c : Int × List Int} (h1 : D.ltP a b = true) (h2 : D.ltP b c = true) : D.ltP a c = true := by
  unfold D.ltP at *
  by_cases e1 : a.1 = b.1
  · rw [if_pos e1] at h1
    by_cases e2 : b.1 = c.1
    · rw [if_pos e2] at h2
      rw [if_pos (by omega)]
      exact decide_eq_true (List.lt_trans (of_decide_eq_true h1) (of_decide_eq_true h2))
    · rw [if_neg e2] at h2
      rw [if_neg (by omega)]
      have := of_decide_eq_true h2
      exact decide_eq_true (by omega)
  · rw [if_neg e1] at h1
    have h1 := of_decide_eq_true h1
    by_cases e2 : b.1 = c.1
    · rw [if_neg (by omega)]; exact decide_eq_true (by omega)
    · rw [if_neg e2] at h2
      have h2 := of_decide_eq_true h2
      rw [if_neg (by omega)]; exact decide_eq_true (by omega)
theorem lt_total {a b : Int × List Int} : D.ltP a b = true ∨ a = b ∨ D.ltP b a = true := by
  unfold D.ltP
  by_cases e : a.1 = b.1
  · rw [if_pos e, if_pos e.symm]
    rcases Classical.em (a.2 < b.2) with h | h
    · exact .inl (decide_eq_true h)
    · rcases Classical.em (b.2 < a.2) with h' | h'
      · exact .inr (.inr (decide_eq_true h'))
      · exact .inr (.inl (Prod.ext e (List.le_antisymm (List.not_lt.mp h') (List.not_lt.mp h))))
  · rw [if_neg e, if_neg (fun q => e q.symm)]
    by_cases h : a.1 < b.1
    · exact .inl (decide_eq_true h)
    · exact .inr (.inr (decide_eq_true (by omega)))
theorem lt_irr {a : Int × List Int} : D.ltP a a = false := by
  unfold D.ltP
  rw [if_pos rfl]
  exact decide_eq_false (List.lt_irrefl _)
theorem minP_spec : ∀ (xs : List (Int × List Int)) (x : Int × List Int), D.minP x xs ∈ x :: xs ∧ ∀ z ∈ x :: xs, D.ltP z (D.minP x xs) = false
  | [], x => ⟨by simp [D.minP], fun z hz => by rw [List.mem_singleton.mp hz]; exact lt_irr⟩
  | y :: xs, x => by
    have e : D.minP x (y :: xs) = D.minP (if D.ltP y x = true then y else x) xs := rfl
    obtain ⟨h1, h2⟩ := minP_spec xs (if D.ltP y x = true then y else x)
    rw [e]
    generalize D.minP (if D.ltP y x = true then y else x) xs = m at h1 h2
    by_cases hy : D.ltP y x = true
    · rw [if_pos hy] at h1 h2
      refine ⟨?_, fun z hz => ?_⟩
      · rcases List.mem_cons.mp h1 with q | q
        · rw [q]; simp
        · simp [q]
      · rcases List.mem_cons.mp hz with q | q
        · rw [q]
          cases hx : D.ltP x m with
          | false => rfl
          | true => have := h2 y (by simp); rw [lt_trans' hy hx] at this; cases this
        · exact h2 z q
    · rw [if_neg hy] at h1 h2
      have hy : D.ltP y x = false := by simpa using hy
      refine ⟨?_, fun z hz => ?_⟩
      · rcases List.mem_cons.mp h1 with q | q
        · rw [q]; simp
        · simp [q]
      · rcases List.mem_cons.mp hz with q | q
        · rw [q]; exact h2 x (by simp)
        · rcases List.mem_cons.mp q with q | q
          · rw [q]
            cases hm : D.ltP y m with
            | false => rfl
            | true =>
              exfalso
              have hxm := h2 x (by simp)
              rcases lt_total (a := m) (b := x) with c | c | c
              · rw [lt_trans' hm c] at hy; cases hy
              · rw [c, hy] at hm; cases hm
              · rw [c] at hxm; cases hxm
          · exact h2 z (by simp [q])
theorem prsOf_map : ∀ ps : List (Int × List Int), D.prsOf (ps.map D.prI) = some ps
  | [] => rfl
  | p :: ps => by
    have h : D.prOf (D.prI p) = some p := by
      have := intsOf_map (f := fun k : Int => k) p.2
      rw [List.map_id'] at this
      show (D.intsOf (p.2.map .int)).map _ = _
      rw [this]; rfl
    rw [List.map_cons]
    unfold D.prsOf
    rw [h, prsOf_map ps]
theorem find_best_R {p : Nat} {tl : List Nat} (h : okP (p :: tl)) : ∃ best, best ∈ cands tl ∧ (∀ ss ∈ cands tl, D.ltP ((gapS (p :: tl) ss : Nat), castL ss) ((gapS (p :: tl) best : Nat), castL best) = false) ∧
    PP.d_find_best [dG (p :: tl)] = .ok (.tup [.int (gapS (p :: tl) best : Nat), dG best]) := by
  have hp := (h.rng p (by simp)).1
  have hcut : D.cut (some 1) none (dG (p :: tl)) = .ok (dG tl) := by
    show R.ok (D.tup (D.cutL ((p :: tl).map fun k => D.int (k : Nat)) (some ((1 : Nat) : Int)) none)) = _
    rw [cut_drop]; rfl
  have hl3 : tl.length ≤ 3 := by have := h.len; rw [List.length_cons] at this; omega
  obtain ⟨ρ', el, ⟨y2, q⟩, -⟩ := loopF_pre (g := gN 2) (b := PP.b_find_best_1) (fun k : Nat => .int (k : Nat)) (fun pre ρ => (∃ y2, ρ = [some (dG (p :: tl)), some (.lst ((cands pre).map dG)), y2, none, none, none]) ∧ (cands pre).length ≤ 8 ^ pre.length) tl [] [some (dG (p :: tl)), some (.lst [.tup [.int 0]]), none, none, none, none] ⟨⟨none, rfl⟩, by decide⟩ (by
    rintro pre x suf hpre ρ ⟨⟨y2, rfl⟩, hlen⟩
    rw [List.nil_append] at hpre
    have hx := h.rng x (by rw [hpre]; simp)
    have hpl : pre.length ≤ 2 := by rw [hpre, List.length_append, List.length_cons] at hl3; omega
    have e : cands (pre ++ [x]) = stepC (cands pre) x := by rw [cands, List.foldl_append]; rfl
    have hlen2 : (cands (pre ++ [x])).length ≤ 8 ^ (pre ++ [x]).length := by
      rw [e, step_len, List.length_append, List.length_singleton, Nat.pow_succ]
      exact Nat.mul_le_mul hlen hx.2
    have hle3 : 8 ^ (pre ++ [x]).length ≤ 8 ^ 3 := Nat.pow_le_pow_right (by decide) (by rw [List.length_append, List.length_singleton]; omega)
    have hle3 : 8 ^ (pre ++ [x]).length ≤ 512 := hle3
    have hr : rng 0 ((x : Nat) : Int) = .ok ((List.range x).map fun k => .int (k : Nat)) := rng_nat (lim2 (by omega))
    have cm : compL2 (gN 3) (sA rngA (aC (eV 2) aN)) [4] (gN 4) (e2 D.add (eV 3) (eTup (aC (eV 4) aN))) [some (dG (p :: tl)), some (.lst ((cands pre).map dG)), some (.int (x : Nat)), none, none, none] ((cands pre).map dG) = .ok ((cands pre).flatMap fun ss => (List.range x).map fun s => dG (ss ++ [s])) :=
      compL2_ok dG (fun ss => (List.range x).map fun s => dG (ss ++ [s])) (cands pre) fun ss hss => ⟨[some (dG (p :: tl)), some (.lst ((cands pre).map dG)), some (.int (x : Nat)), some (dG ss), none, none], (List.range x).map fun k => .int (k : Nat), rfl, by simp only [body_eq, List.map_cons, List.map_nil, List.replicate, List.cons_append, List.nil_append, List.append_nil, R.bind_ok, R.bind_err, v_0, v_S, ev_C, ev_1, ev_2, av_N, av_C, ev_F, ev_None, ev_NotNone, ev_And, ev_Or, ev_Not, ev_If, ev_Chain, ev_Comp, ev_Tup, ev_Lst, tv_V, tv_And, tv_Or, tv_Not, tv_Yes, iv_Items, iv_A, gv_N, gv_T, gv_0, gv_C, Option.bind_some, wv_0, wv_C, at_n, at_r, at_e, wr_o, wr_e, st_Nx, st_Seq, st_Set, st_Asg, st_Drop, st_Ret, st_If, st_Raise, st_For, st_While, st_Par2, st_Par3, sto_f, sto_t, outO_s, List.set_cons_succ, List.set_cons_zero, asB_b, if_true, if_false, Bool.false_eq_true, Bool.not_true, Bool.not_false, items_l, items_t, bLen_l, bLen_t, bLen_s, bTuple_l, bTuple_t, bList_l, bList_t, idx_t, idx_l, at_0, at_1, rngA_1, rngA_2, isNone_n, isNone_i, isNone_t, isNone_l, lim0, lim1, lim2', lim3, List.length_cons, List.length_nil, Nat.reduceAdd, Nat.zero_add, isB_b, isNotB_b, ne_self okD_bl, eq_self okD_bl, decide_true, decide_false, hr], compL_all _ _ _ fun s _ => ⟨_, rfl, by
        have hssl : ss.length ≤ 4 := by
          obtain ⟨q1, _⟩ := (mem_cands (p := 1) (Nat.le_refl _)).mp hss
          have := q1.len
          rw [List.length_cons] at this; omega
        have hadd : D.add (dG ss) (.tup [.int (s : Nat)]) = .ok (dG (ss ++ [s])) := by
          rw [dG, addT, if_pos (lim2 (by rw [List.length_map, List.length_singleton]; omega)), dG, List.map_append]; rfl
        simp only [body_eq, List.map_cons, List.map_nil, List.replicate, List.cons_append, List.nil_append, List.append_nil, R.bind_ok, R.bind_err, v_0, v_S, ev_C, ev_1, ev_2, av_N, av_C, ev_F, ev_None, ev_NotNone, ev_And, ev_Or, ev_Not, ev_If, ev_Chain, ev_Comp, ev_Tup, ev_Lst, tv_V, tv_And, tv_Or, tv_Not, tv_Yes, iv_Items, iv_A, gv_N, gv_T, gv_0, gv_C, Option.bind_some, wv_0, wv_C, at_n, at_r, at_e, wr_o, wr_e, st_Nx, st_Seq, st_Set, st_Asg, st_Drop, st_Ret, st_If, st_Raise, st_For, st_While, st_Par2, st_Par3, sto_f, sto_t, outO_s, List.set_cons_succ, List.set_cons_zero, asB_b, if_true, if_false, Bool.false_eq_true, Bool.not_true, Bool.not_false, items_l, items_t, bLen_l, bLen_t, bLen_s, bTuple_l, bTuple_t, bList_l, bList_t, idx_t, idx_l, at_0, at_1, rngA_1, rngA_2, isNone_n, isNone_i, isNone_t, isNone_l, lim0, lim1, lim2', lim3, List.length_cons, List.length_nil, Nat.reduceAdd, Nat.zero_add, isB_b, isNotB_b, ne_self okD_bl, eq_self okD_bl, decide_true, decide_false, hadd]⟩⟩
    have eo : ((cands pre).flatMap fun ss => (List.range x).map fun s => dG (ss ++ [s])) = (cands (pre ++ [x])).map dG := by
      rw [e, stepC, List.map_flatMap]
      exact congrArg (fun f => List.flatMap f (cands pre)) (funext fun ss => by rw [List.map_map]; rfl)
    have hlim : ((cands (pre ++ [x])).map dG).length ≤ lim := lim2 (by rw [List.length_map]; omega)
    refine ⟨_, [some (dG (p :: tl)), some (.lst ((cands (pre ++ [x])).map dG)), some (.int (x : Nat)), none, none, none], rfl, ?_, ⟨_, rfl⟩, hlen2⟩
    have he : eComp2 (sItems (eV 1)) [3, 4] (gN 3) (sA rngA (aC (eV 2) aN)) [4] (gN 4) (e2 D.add (eV 3) (eTup (aC (eV 4) aN))) [some (dG (p :: tl)), some (.lst ((cands pre).map dG)), some (.int (x : Nat)), none, none, none] = .ok (.lst ((cands (pre ++ [x])).map dG)) := by
      unfold eComp2
      have h1 : sItems (eV 1) [some (dG (p :: tl)), some (.lst ((cands pre).map dG)), some (.int (x : Nat)), none, none, none] = .ok ((cands pre).map dG) := rfl
      have hw : wipeE [some (dG (p :: tl)), some (.lst ((cands pre).map dG)), some (.int (x : Nat)), none, none, none] [3, 4] = [some (dG (p :: tl)), some (.lst ((cands pre).map dG)), some (.int (x : Nat)), none, none, none] := rfl
      rw [h1, R.bind_ok, hw, cm, R.bind_ok, eo, if_pos hlim]
    simp only [PP.b_find_best_1, st_Set, he, wr_o, List.set_cons_succ, List.set_cons_zero])
  subst q
  have el : loopF (gN 2) PP.b_find_best_1 (tl.map fun k => .int (k : Nat)) [some (dG (p :: tl)), some (.lst [.tup [.int 0]]), none, none, none, none] = .nx [some (dG (p :: tl)), some (.lst ((cands tl).map dG)), y2, none, none, none] := el
  have cm : compL (gN 5) tYesF (eTup (aC (eF PP.d_silence_of (aC (eV 0) (aC (eV 5) aN))) (aC (eV 5) aN))) [some (dG (p :: tl)), some (.lst ((cands tl).map dG)), y2, none, none, none] ((cands tl).map dG) = .ok ((cands tl).map fun ss => D.prI ((gapS (p :: tl) ss : Nat), castL ss)) :=
    compL_all _ _ _ fun ss hss => ⟨_, rfl, by
      have hf := ((mem_cands hp).mp hss).1
      have hpr : D.prI ((gapS (p :: tl) ss : Nat), castL ss) = .tup [.int (gapS (p :: tl) ss : Nat), dG ss] := by rw [dG_eq]; rfl
      simp only [body_eq, List.map_cons, List.map_nil, List.replicate, List.cons_append, List.nil_append, List.append_nil, R.bind_ok, R.bind_err, v_0, v_S, ev_C, ev_1, ev_2, av_N, av_C, ev_F, ev_None, ev_NotNone, ev_And, ev_Or, ev_Not, ev_If, ev_Chain, ev_Comp, ev_Tup, ev_Lst, tv_V, tv_And, tv_Or, tv_Not, tv_Yes, iv_Items, iv_A, gv_N, gv_T, gv_0, gv_C, Option.bind_some, wv_0, wv_C, at_n, at_r, at_e, wr_o, wr_e, st_Nx, st_Seq, st_Set, st_Asg, st_Drop, st_Ret, st_If, st_Raise, st_For, st_While, st_Par2, st_Par3, sto_f, sto_t, outO_s, List.set_cons_succ, List.set_cons_zero, asB_b, if_true, if_false, Bool.false_eq_true, Bool.not_true, Bool.not_false, items_l, items_t, bLen_l, bLen_t, bLen_s, bTuple_l, bTuple_t, bList_l, bList_t, idx_t, idx_l, at_0, at_1, rngA_1, rngA_2, isNone_n, isNone_i, isNone_t, isNone_l, lim0, lim1, lim2', lim3, List.length_cons, List.length_nil, Nat.reduceAdd, Nat.zero_add, isB_b, isNotB_b, ne_self okD_bl, eq_self okD_bl, decide_true, decide_false, silence_of_R h hf, hpr]⟩
  have hne : cands tl ≠ [] := fun e => by
    have hz : ∀ tl : List Nat, (∀ q ∈ tl, 1 ≤ q) → Fit (tl.map fun _ => 0) tl := fun tl => by
      induction tl with
      | nil => intro _; trivial
      | cons q tl ih => intro hq; exact ⟨show 0 < q by have := hq q (by simp); omega, ih fun r hr => hq r (by simp [hr])⟩
    have : (0 :: tl.map fun _ => 0) ∈ cands tl := (mem_cands hp).mpr ⟨⟨by omega, hz tl fun q hq => (h.rng q (by simp [hq])).1⟩, rfl⟩
    rw [e] at this; simp at this
  obtain ⟨s0, cs, hcs⟩ := List.exists_cons_of_ne_nil hne
  obtain ⟨m1, m2⟩ := minP_spec (cs.map fun ss => (((gapS (p :: tl) ss : Nat) : Int), castL ss)) ((gapS (p :: tl) s0 : Nat), castL s0)
  have hcons : ((((gapS (p :: tl) s0 : Nat) : Int), castL s0) :: cs.map fun ss => (((gapS (p :: tl) ss : Nat) : Int), castL ss)) = (cands tl).map fun ss => (((gapS (p :: tl) ss : Nat) : Int), castL ss) := by rw [hcs]; rfl
  have hb : D.bMinP [.lst ((cands tl).map fun ss => D.prI ((gapS (p :: tl) ss : Nat), castL ss))] = .ok (D.prI (D.minP ((gapS (p :: tl) s0 : Nat), castL s0) (cs.map fun ss => (((gapS (p :: tl) ss : Nat) : Int), castL ss)))) := by
    have e : (cands tl).map (fun ss => D.prI ((gapS (p :: tl) ss : Nat), castL ss)) = (((((gapS (p :: tl) s0 : Nat) : Int), castL s0) :: cs.map fun ss => (((gapS (p :: tl) ss : Nat) : Int), castL ss))).map D.prI := by rw [hcons, List.map_map]; rfl
    rw [e]
    unfold D.bMinP
    simp only [prsOf_map]
  rw [hcons] at m1 m2
  obtain ⟨best, hbest, ebest⟩ := List.mem_map.mp m1
  rw [← ebest] at hb m2
  refine ⟨best, hbest, fun ss hss => m2 _ (List.mem_map.mpr ⟨ss, hss, rfl⟩), ?_⟩
  have hpr : D.prI ((gapS (p :: tl) best : Nat), castL best) = .tup [.int (gapS (p :: tl) best : Nat), dG best] := by rw [dG_eq]; rfl
  rw [hpr] at hb
  simp only [PP.d_find_best, PP.s_find_best, body_eq, List.map_cons, List.map_nil, List.replicate, List.cons_append, List.nil_append, List.append_nil, R.bind_ok, R.bind_err, v_0, v_S, ev_C, ev_1, ev_2, av_N, av_C, ev_F, ev_None, ev_NotNone, ev_And, ev_Or, ev_Not, ev_If, ev_Chain, ev_Comp, ev_Tup, ev_Lst, tv_V, tv_And, tv_Or, tv_Not, tv_Yes, iv_Items, iv_A, gv_N, gv_T, gv_0, gv_C, Option.bind_some, wv_0, wv_C, at_n, at_r, at_e, wr_o, wr_e, st_Nx, st_Seq, st_Set, st_Asg, st_Drop, st_Ret, st_If, st_Raise, st_For, st_While, st_Par2, st_Par3, sto_f, sto_t, outO_s, List.set_cons_succ, List.set_cons_zero, asB_b, if_true, if_false, Bool.false_eq_true, Bool.not_true, Bool.not_false, items_l, items_t, bLen_l, bLen_t, bLen_s, bTuple_l, bTuple_t, bList_l, bList_t, idx_t, idx_l, at_0, at_1, rngA_1, rngA_2, isNone_n, isNone_i, isNone_t, isNone_l, lim0, lim1, lim2', lim3, List.length_cons, List.length_nil, Nat.reduceAdd, Nat.zero_add, isB_b, isNotB_b, ne_self okD_bl, eq_self okD_bl, decide_true, decide_false, eCut, oN, oS, hcut, itemsG, el, cm, hb]
end RT

namespace RT
/-! S20: the best shifts are the best of all -/
theorem Fit_of : ∀ {ss ps : List Nat}, ss.length = ps.length → (∀ a ∈ ps.zip ss, a.2 < a.1) → Fit ss ps
  | [], [], _, _ => trivial
  | s :: ss, p :: ps, hl, h => by
    rw [List.zip_cons_cons] at h
    exact ⟨h (p, s) (by simp), Fit_of (by simpa using hl) fun a ha => h a (by simp [ha])⟩
theorem ltP_false {a b : Nat} {x y : List Int} (h : D.ltP ((a : Nat), x) ((b : Nat), y) = false) : b ≤ a ∧ (a = b → ¬ x < y) := by
  unfold D.ltP at h
  by_cases e : (a : Int) = b
  · rw [if_pos e] at h
    exact ⟨by omega, fun _ => of_decide_eq_false h⟩
  · rw [if_neg e] at h
    have := of_decide_eq_false h
    have this : ¬ ((a : Int) < b) := this
    exact ⟨by omega, fun q => absurd (by omega) e⟩
/-- moved by k -/
def shiftL (k : Nat) (ps ss : List Nat) : List Nat := List.zipWith (fun p s => (s + k) % p) ps ss
theorem zip_shift (k : Nat) : ∀ ps ss : List Nat, (ps.zip ss).map (mv k) = ps.zip (shiftL k ps ss)
  | [], _ => by simp
  | _ :: _, [] => by simp [shiftL]
  | p :: ps, s :: ss => by
    have := zip_shift k ps ss
    have e : shiftL k (p :: ps) (s :: ss) = (s + k) % p :: shiftL k ps ss := by simp only [shiftL, List.zipWith_cons_cons]
    rw [List.zip_cons_cons, List.map_cons, this, e, List.zip_cons_cons]
    rfl
theorem fit_shift (k : Nat) : ∀ {ss ps : List Nat}, Fit ss ps → Fit (shiftL k ps ss) ps
  | [], [], _ => trivial
  | s :: ss, p :: ps, h => by
    rw [shiftL, List.zipWith_cons_cons]
    exact ⟨Nat.mod_lt _ (by have := h.1; omega), fit_shift k h.2⟩
/-- the best is the best of all -/
structure Best (ps best : List Nat) : Prop where
  fit : Fit best ps
  zero : best.head? = some 0
  least : ∀ ss, Fit ss ps → gapS ps best ≤ gapS ps ss
  first : ∀ ss, Fit ss ps → gapS ps ss = gapS ps best → ¬ castL ss < castL best
theorem best_ex' {ps : List Nat} (h : okP ps) : ∃ best, Best ps best ∧ PP.d_least_silence [dG ps] = .ok (.int (gapS ps best : Nat)) ∧ PP.d_covering_shifts [dG ps] = .ok (dG best) := by
  match ps, h with
  | [], h => exact absurd rfl h.ne
  | p :: tl, h =>
    obtain ⟨best, hb, hm, e⟩ := find_best_R h
    have hp := (h.rng p (by simp)).1
    obtain ⟨hf, h0⟩ := (mem_cands hp).mp hb
    have norm : ∀ ss, Fit ss (p :: tl) → ∃ ss', ss' ∈ cands tl ∧ gapS (p :: tl) ss' = gapS (p :: tl) ss := fun ss hs => by
      match ss, hs with
      | s :: ss, hs =>
        have hs1 := hs.1
        refine ⟨shiftL (p - s) (p :: tl) (s :: ss), (mem_cands hp).mpr ⟨fit_shift _ hs, ?_⟩, ?_⟩
        · rw [shiftL, List.zipWith_cons_cons, List.head?_cons, show s + (p - s) = p by omega, Nat.mod_self]
        · rw [gapS, gapS, ← zip_shift]
          exact gap_mv (zip_okR h hs) (zip_ne h hs) _
    refine ⟨best, ⟨hf, h0, fun ss hs => ?_, fun ss hs he hlt => ?_⟩, ?_, ?_⟩
    · obtain ⟨ss', h1, h2⟩ := norm ss hs
      have := (ltP_false (hm ss' h1)).1
      omega
    · match best, ss, h0, hs with
      | b :: best, s :: ss, h0, hs =>
        cases h0
        by_cases hz : s = 0
        · subst hz
          exact (ltP_false (hm (0 :: ss) ((mem_cands hp).mpr ⟨hs, rfl⟩))).2 he hlt
        · rw [castL, castL, List.map_cons, List.map_cons, List.cons_lt_cons_iff] at hlt
          rcases hlt with q | q
          · omega
          · have := q.1; omega
    · have i0 : D.idx (.tup [.int (gapS (p :: tl) best : Nat), dG best]) (.int 0) = .ok (.int (gapS (p :: tl) best : Nat)) := rfl
      simp only [PP.d_least_silence, PP.s_least_silence, body_eq, List.map_cons, List.map_nil, List.replicate, List.cons_append, List.nil_append, List.append_nil, R.bind_ok, R.bind_err, v_0, v_S, ev_C, ev_1, ev_2, av_N, av_C, ev_F, ev_None, ev_NotNone, ev_And, ev_Or, ev_Not, ev_If, ev_Chain, ev_Comp, ev_Tup, ev_Lst, tv_V, tv_And, tv_Or, tv_Not, tv_Yes, iv_Items, iv_A, gv_N, gv_T, gv_0, gv_C, Option.bind_some, wv_0, wv_C, at_n, at_r, at_e, wr_o, wr_e, st_Nx, st_Seq, st_Set, st_Asg, st_Drop, st_Ret, st_If, st_Raise, st_For, st_While, st_Par2, st_Par3, sto_f, sto_t, outO_s, List.set_cons_succ, List.set_cons_zero, asB_b, if_true, if_false, Bool.false_eq_true, Bool.not_true, Bool.not_false, items_l, items_t, bLen_l, bLen_t, bLen_s, bTuple_l, bTuple_t, bList_l, bList_t, idx_t, idx_l, at_0, at_1, rngA_1, rngA_2, isNone_n, isNone_i, isNone_t, isNone_l, lim0, lim1, lim2', lim3, List.length_cons, List.length_nil, Nat.reduceAdd, Nat.zero_add, isB_b, isNotB_b, ne_self okD_bl, eq_self okD_bl, decide_true, decide_false, check_product_b_R h, e]
    · simp only [PP.d_covering_shifts, PP.s_covering_shifts, body_eq, List.map_cons, List.map_nil, List.replicate, List.cons_append, List.nil_append, List.append_nil, R.bind_ok, R.bind_err, v_0, v_S, ev_C, ev_1, ev_2, av_N, av_C, ev_F, ev_None, ev_NotNone, ev_And, ev_Or, ev_Not, ev_If, ev_Chain, ev_Comp, ev_Tup, ev_Lst, tv_V, tv_And, tv_Or, tv_Not, tv_Yes, iv_Items, iv_A, gv_N, gv_T, gv_0, gv_C, Option.bind_some, wv_0, wv_C, at_n, at_r, at_e, wr_o, wr_e, st_Nx, st_Seq, st_Set, st_Asg, st_Drop, st_Ret, st_If, st_Raise, st_For, st_While, st_Par2, st_Par3, sto_f, sto_t, outO_s, List.set_cons_succ, List.set_cons_zero, asB_b, if_true, if_false, Bool.false_eq_true, Bool.not_true, Bool.not_false, items_l, items_t, bLen_l, bLen_t, bLen_s, bTuple_l, bTuple_t, bList_l, bList_t, idx_t, idx_l, at_0, at_1, rngA_1, rngA_2, isNone_n, isNone_i, isNone_t, isNone_l, lim0, lim1, lim2', lim3, List.length_cons, List.length_nil, Nat.reduceAdd, Nat.zero_add, isB_b, isNotB_b, ne_self okD_bl, eq_self okD_bl, decide_true, decide_false, check_product_b_R h, e]
theorem gapS_mem {ps ss ps' ss' : List Nat} (h : okP ps) (f : Fit ss ps) (hm : ∀ a ∈ ps.zip ss, a ∈ ps'.zip ss') : gapS ps' ss' ≤ gapS ps ss := gap_mono (zip_okR h f) (zip_ne h f) hm
theorem zip_row (ps ss : List Nat) : zipA [dG ps, dG ss] = .ok ((ps.zip ss).map dA) := by
  show R.ok (zipD (ps.map fun k => .int (k : Nat)) (ss.map fun k => .int (k : Nat))) = _
  rw [zipD, List.zip_map, List.map_map]
  rfl
theorem longest_zip {ps ss : List Nat} (h : okP ps) (f : Fit ss ps) : PP.d_longest_silence [.tup ((ps.zip ss).map dA)] = .ok (.int (gapS ps ss : Nat)) := longest_silence_R (zip_okR h f) (zip_cyc h f) (zip_ne h f)
end RT

namespace RT
namespace k20_whole_shifts
/-- no two meet -/
def pw (r : List A) : Bool := ((List.range r.length).zip r).all fun x => !(r.take x.1).any fun b => meets b x.2
theorem pw_snoc (r : List A) (a : A) : pw (r ++ [a]) = (pw r && !r.any fun b => meets b a) := by
  have e : (List.range (r ++ [a]).length).zip (r ++ [a]) = (List.range r.length).zip r ++ [(r.length, a)] := by
    rw [List.length_append, List.length_singleton, List.range_succ, List.zip_append (by rw [List.length_range])]; rfl
  rw [pw, e, List.all_append]
  have h1 : ((List.range r.length).zip r).all (fun x => !((r ++ [a]).take x.1).any fun b => meets b x.2) = pw r := by
    rw [pw, Bool.eq_iff_iff, List.all_eq_true, List.all_eq_true]
    have te : ∀ x ∈ (List.range r.length).zip r, (r ++ [a]).take x.1 = r.take x.1 := fun x hx => by
      have := List.mem_range.mp (List.of_mem_zip hx).1
      rw [List.take_append_of_le_length (by omega)]
    exact ⟨fun h x hx => by have := h x hx; rwa [te x hx] at this, fun h x hx => by have := h x hx; rwa [te x hx]⟩
  rw [h1]
  simp
theorem pw_iff {r : List A} : pw r = true ↔ ∀ i j, j < i → i < r.length → meets (gA r j) (gA r i) = false := by
  rw [pw, List.all_eq_true]
  constructor
  · intro h i j hj hi
    have hm : (i, gA r i) ∈ (List.range r.length).zip r := List.mem_iff_getElem.mpr ⟨i, by rw [List.length_zip, List.length_range, Nat.min_self]; exact hi, by rw [List.getElem_zip, List.getElem_range, gA_lt hi]⟩
    have := h _ hm
    rw [Bool.not_eq_true', List.any_eq_false] at this
    have hjm : gA r j ∈ r.take i := by
      rw [gA_lt (by omega)]
      exact List.mem_iff_getElem.mpr ⟨j, by rw [List.length_take]; omega, by rw [List.getElem_take]⟩
    have := this _ hjm
    simpa using this
  · intro h x hx
    obtain ⟨i, hi, e⟩ := List.mem_iff_getElem.mp hx
    rw [List.length_zip, List.length_range, Nat.min_self] at hi
    rw [List.getElem_zip, List.getElem_range] at e
    rw [← e, Bool.not_eq_true', List.any_eq_false]
    intro b hb
    obtain ⟨j, hj, eb⟩ := List.mem_iff_getElem.mp hb
    rw [List.length_take] at hj
    rw [List.getElem_take] at eb
    have := h i j (by omega) hi
    rw [gA_lt hi, gA_lt (by omega), eb] at this
    simpa using this
def apartB (r : List A) : Bool := !(List.range (cyc r)).any fun t => decide (1 < (heard r t).length)
theorem apart_pw {r : List A} (h : okR r) : apartB r = pw r := by
  rw [Bool.eq_iff_iff, pw_iff, apartB, Bool.not_eq_true', List.any_eq_false]
  constructor
  · intro q i j hj hi
    cases hm : meets (gA r j) (gA r i) with
    | false => rfl
    | true =>
      exfalso
      obtain ⟨t, h1, h2⟩ := meets_ex_t (h.2 _ (gA_mem (by omega))) (h.2 _ (gA_mem hi)) hm
      have hpos := cyc_pos h.2
      have hh := heard_modc (r := r) t
      have m1 : j ∈ heard r t := heard_mem.mpr ⟨by omega, h1⟩
      have m2 : i ∈ heard r t := heard_mem.mpr ⟨hi, h2⟩
      have := q (t % cyc r) (List.mem_range.mpr (Nat.mod_lt _ hpos))
      rw [hh] at this
      refine this (decide_eq_true ?_)
      cases hl : heard r t with
      | nil => rw [hl] at m1; simp at m1
      | cons a l =>
        cases l with
        | nil =>
          rw [hl] at m1 m2
          rw [List.mem_singleton] at m1 m2
          omega
        | cons b l => simp
  · intro q t ht hd
    have hd := of_decide_eq_true hd
    have hs := heard_sorted r t
    cases hl : heard r t with
    | nil => rw [hl] at hd; simp at hd
    | cons a l =>
      cases l with
      | nil => rw [hl] at hd; simp at hd
      | cons b l =>
        have h1 := heard_mem.mp (show a ∈ heard r t by rw [hl]; simp)
        have h2 := heard_mem.mp (show b ∈ heard r t by rw [hl]; simp)
        rw [hl] at hs
        have hab := (List.pairwise_cons.mp hs).1 b (by simp)
        have := q b a hab h2.1
        rw [meets_of h1.2 h2.2] at this
        cases this
/-! the periods -/
structure okQ (ps : List Nat) : Prop where
  len : ps.length ≤ 4
  rng : ∀ p ∈ ps, 1 ≤ p ∧ p ≤ 6
theorem zip_okQ {ss ps : List Nat} (h : okQ ps) (f : Fit ss ps) : okR (ps.zip ss) := ⟨by
  rw [List.length_zip]; have := h.len; omega, fun a ha => by
  obtain ⟨h1, h2⟩ := f.okR a ha
  have := h.rng _ h2
  exact ⟨this.1, by omega, h1⟩⟩
theorem zipT_G (ps ss : List Nat) : D.bZipT [dG ps, dG ss] = .ok (dR (ps.zip ss)) := by
  show R.ok (D.tup (zipD (ps.map fun k => .int (k : Nat)) (ss.map fun k => .int (k : Nat)))) = _
  rw [zipD, List.zip_map, List.map_map]
  rfl
theorem apart_R {ps ss : List Nat} (h : okQ ps) (f : Fit ss ps) : d__law_apart [dG ps, dG ss] = .ok (.bl (pw (ps.zip ss))) := by
  have hr := zip_okQ h f
  have hc6 := cyc_pow (p := 6) (n := 4) (r := ps.zip ss) (fun a ha => by
    obtain ⟨h1, h2⟩ := f.okR a ha
    exact h.rng _ h2) (by decide) (by rw [List.length_zip]; have := h.len; omega)
  have hc6 : cyc (ps.zip ss) ≤ 1296 := hc6
  have hrg : rng 0 ((cyc (ps.zip ss) : Nat) : Int) = .ok ((List.range (cyc (ps.zip ss))).map fun k => .int (k : Nat)) := rng_nat (lim2 (by omega))
  have cm : compL (gN 3) tYesF (e2 D.gt (eF D.bLen (aC (eF PP.d__law_heard (aC (eV 2) (aC (eV 3) aN))) aN)) (eC (.int 1))) [some (dG ps), some (dG ss), some (dR (ps.zip ss)), none] ((List.range (cyc (ps.zip ss))).map fun k => .int (k : Nat)) = .ok ((List.range (cyc (ps.zip ss))).map fun t => .bl (decide (1 < (heard (ps.zip ss) t).length))) :=
    compL_all _ _ _ fun t _ => ⟨_, rfl, by
      have hg : decide ((1 : Int) < ((heard (ps.zip ss) t).length : Nat)) = decide (1 < (heard (ps.zip ss) t).length) := by rw [Bool.eq_iff_iff, decide_eq_true_eq, decide_eq_true_eq]; omega
      simp only [body_eq, List.map_cons, List.map_nil, List.replicate, List.cons_append, List.nil_append, List.append_nil, R.bind_ok, R.bind_err, v_0, v_S, ev_C, ev_1, ev_2, av_N, av_C, ev_F, ev_None, ev_NotNone, ev_And, ev_Or, ev_Not, ev_If, ev_Chain, ev_Comp, ev_Tup, ev_Lst, tv_V, tv_And, tv_Or, tv_Not, tv_Yes, iv_Items, iv_A, gv_N, gv_T, gv_0, gv_C, Option.bind_some, wv_0, wv_C, at_n, at_r, at_e, wr_o, wr_e, st_Nx, st_Seq, st_Set, st_Asg, st_Drop, st_Ret, st_If, st_Raise, st_For, st_While, st_Par2, st_Par3, sto_f, sto_t, outO_s, List.set_cons_succ, List.set_cons_zero, asB_b, if_true, if_false, Bool.false_eq_true, Bool.not_true, Bool.not_false, items_l, items_t, bLen_l, bLen_t, bLen_s, bTuple_l, bTuple_t, bList_l, bList_t, idx_t, idx_l, at_0, at_1, rngA_1, rngA_2, isNone_n, isNone_i, isNone_t, isNone_l, lim0, lim1, lim2', lim3, List.length_cons, List.length_nil, Nat.reduceAdd, Nat.zero_add, isB_b, isNotB_b, ne_self okD_bl, eq_self okD_bl, decide_true, decide_false, law_heard_R hr, lenN, gt_i, hg]⟩
  have hb := bAny_map (f := fun t => decide (1 < (heard (ps.zip ss) t).length)) (xs := List.range (cyc (ps.zip ss)))
  have e := apart_pw hr
  rw [apartB] at e
  simp only [d__law_apart, s__law_apart, body_eq, List.map_cons, List.map_nil, List.replicate, List.cons_append, List.nil_append, List.append_nil, R.bind_ok, R.bind_err, v_0, v_S, ev_C, ev_1, ev_2, av_N, av_C, ev_F, ev_None, ev_NotNone, ev_And, ev_Or, ev_Not, ev_If, ev_Chain, ev_Comp, ev_Tup, ev_Lst, tv_V, tv_And, tv_Or, tv_Not, tv_Yes, iv_Items, iv_A, gv_N, gv_T, gv_0, gv_C, Option.bind_some, wv_0, wv_C, at_n, at_r, at_e, wr_o, wr_e, st_Nx, st_Seq, st_Set, st_Asg, st_Drop, st_Ret, st_If, st_Raise, st_For, st_While, st_Par2, st_Par3, sto_f, sto_t, outO_s, List.set_cons_succ, List.set_cons_zero, asB_b, if_true, if_false, Bool.false_eq_true, Bool.not_true, Bool.not_false, items_l, items_t, bLen_l, bLen_t, bLen_s, bTuple_l, bTuple_t, bList_l, bList_t, idx_t, idx_l, at_0, at_1, rngA_1, rngA_2, isNone_n, isNone_i, isNone_t, isNone_l, lim0, lim1, lim2', lim3, List.length_cons, List.length_nil, Nat.reduceAdd, Nat.zero_add, isB_b, isNotB_b, ne_self okD_bl, eq_self okD_bl, decide_true, decide_false, zipT_G, law_cycle_R hr.2, hrg, cm, hb, e]
theorem fits_R {r : List A} {a : A} (h : ∀ b ∈ r, okA b) (ha : okA a) : PP.d_fits [dR r, dA a] = .ok (.bl (!r.any fun b => meets b a)) := by
  have hit : D.items (dR r) = .ok (r.map dA) := rfl
  have cm : compL (gN 2) tYesF (eF PP.d_do_meet (aC (eV 2) (aC (eV 1) aN))) [some (dR r), some (dA a), none] (r.map dA) = .ok (r.map fun b => .bl (meets b a)) :=
    compL_all _ _ _ fun b hb => ⟨_, rfl, by
      have hd := do_meet_A (h b hb).b (b := a) (by have := ha.2.1; omega)
      simp only [body_eq, List.map_cons, List.map_nil, List.replicate, List.cons_append, List.nil_append, List.append_nil, R.bind_ok, R.bind_err, v_0, v_S, ev_C, ev_1, ev_2, av_N, av_C, ev_F, ev_None, ev_NotNone, ev_And, ev_Or, ev_Not, ev_If, ev_Chain, ev_Comp, ev_Tup, ev_Lst, tv_V, tv_And, tv_Or, tv_Not, tv_Yes, iv_Items, iv_A, gv_N, gv_T, gv_0, gv_C, Option.bind_some, wv_0, wv_C, at_n, at_r, at_e, wr_o, wr_e, st_Nx, st_Seq, st_Set, st_Asg, st_Drop, st_Ret, st_If, st_Raise, st_For, st_While, st_Par2, st_Par3, sto_f, sto_t, outO_s, List.set_cons_succ, List.set_cons_zero, asB_b, if_true, if_false, Bool.false_eq_true, Bool.not_true, Bool.not_false, items_l, items_t, bLen_l, bLen_t, bLen_s, bTuple_l, bTuple_t, bList_l, bList_t, idx_t, idx_l, at_0, at_1, rngA_1, rngA_2, isNone_n, isNone_i, isNone_t, isNone_l, lim0, lim1, lim2', lim3, List.length_cons, List.length_nil, Nat.reduceAdd, Nat.zero_add, isB_b, isNotB_b, ne_self okD_bl, eq_self okD_bl, decide_true, decide_false, hd]⟩
  have hb := bAny_map (f := fun b => meets b a) (xs := r)
  simp only [PP.d_fits, PP.s_fits, body_eq, List.map_cons, List.map_nil, List.replicate, List.cons_append, List.nil_append, List.append_nil, R.bind_ok, R.bind_err, v_0, v_S, ev_C, ev_1, ev_2, av_N, av_C, ev_F, ev_None, ev_NotNone, ev_And, ev_Or, ev_Not, ev_If, ev_Chain, ev_Comp, ev_Tup, ev_Lst, tv_V, tv_And, tv_Or, tv_Not, tv_Yes, iv_Items, iv_A, gv_N, gv_T, gv_0, gv_C, Option.bind_some, wv_0, wv_C, at_n, at_r, at_e, wr_o, wr_e, st_Nx, st_Seq, st_Set, st_Asg, st_Drop, st_Ret, st_If, st_Raise, st_For, st_While, st_Par2, st_Par3, sto_f, sto_t, outO_s, List.set_cons_succ, List.set_cons_zero, asB_b, if_true, if_false, Bool.false_eq_true, Bool.not_true, Bool.not_false, items_l, items_t, bLen_l, bLen_t, bLen_s, bTuple_l, bTuple_t, bList_l, bList_t, idx_t, idx_l, at_0, at_1, rngA_1, rngA_2, isNone_n, isNone_i, isNone_t, isNone_l, lim0, lim1, lim2', lim3, List.length_cons, List.length_nil, Nat.reduceAdd, Nat.zero_add, isB_b, isNotB_b, ne_self okD_bl, eq_self okD_bl, decide_true, decide_false, hit, cm, hb]
theorem check_periods_R {ps : List Nat} (h : okQ ps) : PP.d_check_periods [dG ps] = .ok .non := by
  have g1 : decide ((6 : Int) < (ps.length : Nat)) = false := decide_eq_false (by have := h.len; omega)
  have cm : compL (gN 1) tYesF (eF PP.d_is_int (aC (eV 1) (aC (eC (.int 1)) (aC (eC (.int 12)) aN)))) [some (dG ps), none] (ps.map fun k => .int (k : Nat)) = .ok (ps.map fun k => .bl true) :=
    compL_all _ _ _ fun k hk => ⟨_, rfl, by
      have := h.rng k hk
      have g1 : decide ((1 : Int) ≤ (k : Nat)) = true := decide_eq_true (by omega)
      have g2 : decide (((k : Nat) : Int) ≤ 12) = true := decide_eq_true (by omega)
      simp only [body_eq, List.map_cons, List.map_nil, List.replicate, List.cons_append, List.nil_append, List.append_nil, R.bind_ok, R.bind_err, v_0, v_S, ev_C, ev_1, ev_2, av_N, av_C, ev_F, ev_None, ev_NotNone, ev_And, ev_Or, ev_Not, ev_If, ev_Chain, ev_Comp, ev_Tup, ev_Lst, tv_V, tv_And, tv_Or, tv_Not, tv_Yes, iv_Items, iv_A, gv_N, gv_T, gv_0, gv_C, Option.bind_some, wv_0, wv_C, at_n, at_r, at_e, wr_o, wr_e, st_Nx, st_Seq, st_Set, st_Asg, st_Drop, st_Ret, st_If, st_Raise, st_For, st_While, st_Par2, st_Par3, sto_f, sto_t, outO_s, List.set_cons_succ, List.set_cons_zero, asB_b, if_true, if_false, Bool.false_eq_true, Bool.not_true, Bool.not_false, items_l, items_t, bLen_l, bLen_t, bLen_s, bTuple_l, bTuple_t, bList_l, bList_t, idx_t, idx_l, at_0, at_1, rngA_1, rngA_2, isNone_n, isNone_i, isNone_t, isNone_l, lim0, lim1, lim2', lim3, List.length_cons, List.length_nil, Nat.reduceAdd, Nat.zero_add, isB_b, isNotB_b, ne_self okD_bl, eq_self okD_bl, decide_true, decide_false, is_int_ok, g1, g2, Bool.and_true]⟩
  have hb := bAll_map (f := fun k : Nat => true) (xs := ps)
  have ha : ps.all (fun _ => true) = true := by simp
  rw [ha] at hb
  simp only [PP.d_check_periods, PP.s_check_periods, body_eq, List.map_cons, List.map_nil, List.replicate, List.cons_append, List.nil_append, List.append_nil, R.bind_ok, R.bind_err, v_0, v_S, ev_C, ev_1, ev_2, av_N, av_C, ev_F, ev_None, ev_NotNone, ev_And, ev_Or, ev_Not, ev_If, ev_Chain, ev_Comp, ev_Tup, ev_Lst, tv_V, tv_And, tv_Or, tv_Not, tv_Yes, iv_Items, iv_A, gv_N, gv_T, gv_0, gv_C, Option.bind_some, wv_0, wv_C, at_n, at_r, at_e, wr_o, wr_e, st_Nx, st_Seq, st_Set, st_Asg, st_Drop, st_Ret, st_If, st_Raise, st_For, st_While, st_Par2, st_Par3, sto_f, sto_t, outO_s, List.set_cons_succ, List.set_cons_zero, asB_b, if_true, if_false, Bool.false_eq_true, Bool.not_true, Bool.not_false, items_l, items_t, bLen_l, bLen_t, bLen_s, bTuple_l, bTuple_t, bList_l, bList_t, idx_t, idx_l, at_0, at_1, rngA_1, rngA_2, isNone_n, isNone_i, isNone_t, isNone_l, lim0, lim1, lim2', lim3, List.length_cons, List.length_nil, Nat.reduceAdd, Nat.zero_add, isB_b, isNotB_b, ne_self okD_bl, eq_self okD_bl, decide_true, decide_false, isI_G, lenG, gt_i, g1, itemsG, cm, hb]
theorem check_product_R {ps : List Nat} (h : okQ ps) : PP.d_check_product [dG ps] = .ok .non := by
  have bnd : ∀ p : List Nat, p.length ≤ 4 → (∀ x ∈ p, x ≤ 8) → mulL p ≤ 4096 := fun p h1 h2 => mulL_pow 4 p h1 h2
  obtain ⟨ρ', el, y2, q⟩ := loopF_pre (g := gN 2) (b := PP.b_check_product_1) (fun k : Nat => .int (k : Nat)) (fun p ρ => ∃ y2, ρ = [some (dG ps), some (.int (mulL p : Nat)), y2]) ps [] [some (dG ps), some (.int 1), none] ⟨none, rfl⟩ (by
    rintro p x suf hp ρ ⟨y2, rfl⟩
    rw [List.nil_append] at hp
    have hl := h.len
    have hm := bnd p (by rw [hp, List.length_append] at hl; omega) fun q hq => by have := (h.rng q (by rw [hp]; simp [hq])).2; omega
    have hmul : D.mul (.int (mulL p : Nat)) (.int (x : Nat)) = .ok (.int (mulL (p ++ [x]) : Nat)) := by rw [mul_n (by omega), mulL_snoc]
    refine ⟨_, [some (dG ps), some (.int (mulL (p ++ [x]) : Nat)), some (.int (x : Nat))], rfl, ?_, ⟨_, rfl⟩⟩
    simp only [PP.b_check_product_1, body_eq, List.map_cons, List.map_nil, List.replicate, List.cons_append, List.nil_append, List.append_nil, R.bind_ok, R.bind_err, v_0, v_S, ev_C, ev_1, ev_2, av_N, av_C, ev_F, ev_None, ev_NotNone, ev_And, ev_Or, ev_Not, ev_If, ev_Chain, ev_Comp, ev_Tup, ev_Lst, tv_V, tv_And, tv_Or, tv_Not, tv_Yes, iv_Items, iv_A, gv_N, gv_T, gv_0, gv_C, Option.bind_some, wv_0, wv_C, at_n, at_r, at_e, wr_o, wr_e, st_Nx, st_Seq, st_Set, st_Asg, st_Drop, st_Ret, st_If, st_Raise, st_For, st_While, st_Par2, st_Par3, sto_f, sto_t, outO_s, List.set_cons_succ, List.set_cons_zero, asB_b, if_true, if_false, Bool.false_eq_true, Bool.not_true, Bool.not_false, items_l, items_t, bLen_l, bLen_t, bLen_s, bTuple_l, bTuple_t, bList_l, bList_t, idx_t, idx_l, at_0, at_1, rngA_1, rngA_2, isNone_n, isNone_i, isNone_t, isNone_l, lim0, lim1, lim2', lim3, List.length_cons, List.length_nil, Nat.reduceAdd, Nat.zero_add, isB_b, isNotB_b, ne_self okD_bl, eq_self okD_bl, decide_true, decide_false, hmul])
  subst q
  have hgt : decide ((20000 : Int) < (mulL ps : Nat)) = false := decide_eq_false (by
    have := bnd ps h.len fun q hq => by have := (h.rng q hq).2; omega
    omega)
  have el : loopF (gN 2) PP.b_check_product_1 (ps.map fun k => .int (k : Nat)) [some (dG ps), some (.int 1), none] = .nx [some (dG ps), some (.int (mulL ps : Nat)), y2] := el
  simp only [PP.d_check_product, PP.s_check_product, body_eq, List.map_cons, List.map_nil, List.replicate, List.cons_append, List.nil_append, List.append_nil, R.bind_ok, R.bind_err, v_0, v_S, ev_C, ev_1, ev_2, av_N, av_C, ev_F, ev_None, ev_NotNone, ev_And, ev_Or, ev_Not, ev_If, ev_Chain, ev_Comp, ev_Tup, ev_Lst, tv_V, tv_And, tv_Or, tv_Not, tv_Yes, iv_Items, iv_A, gv_N, gv_T, gv_0, gv_C, Option.bind_some, wv_0, wv_C, at_n, at_r, at_e, wr_o, wr_e, st_Nx, st_Seq, st_Set, st_Asg, st_Drop, st_Ret, st_If, st_Raise, st_For, st_While, st_Par2, st_Par3, sto_f, sto_t, outO_s, List.set_cons_succ, List.set_cons_zero, asB_b, if_true, if_false, Bool.false_eq_true, Bool.not_true, Bool.not_false, items_l, items_t, bLen_l, bLen_t, bLen_s, bTuple_l, bTuple_t, bList_l, bList_t, idx_t, idx_l, at_0, at_1, rngA_1, rngA_2, isNone_n, isNone_i, isNone_t, isNone_l, lim0, lim1, lim2', lim3, List.length_cons, List.length_nil, Nat.reduceAdd, Nat.zero_add, isB_b, isNotB_b, ne_self okD_bl, eq_self okD_bl, decide_true, decide_false, itemsG, el, gt_i, hgt]
/-! which are good -/
theorem good_R {ps ss : List Nat} (h : okQ ps) (f : Fit ss ps) : PP.d_are_good [dG ps, dG ss] = .ok (.bl (pw (ps.zip ss))) := by
  have hr := zip_okQ h f
  have hne : D.ne (.int (ss.length : Nat)) (.int (ps.length : Nat)) = .ok (.bl false) := by rw [f.len]; exact ne_self okD_int
  have hz : zipA [dG ps, dG ss] = .ok ((ps.zip ss).map dA) := zip_row ps ss
  have c1 : compL (gT (gsC (gN 3) (gsC (gN 4) gs0))) tYesF (eF PP.d_is_int (aC (eV 4) (aC (eC (.int 0)) (aC (e2 D.sub (eV 3) (eC (.int 1))) aN)))) [some (dG ps), some (dG ss), none, none, none, none, none] ((ps.zip ss).map dA) = .ok ((ps.zip ss).map fun x => .bl true) :=
    compL_all _ _ _ fun x hx => ⟨_, rfl, by
      have hx := (f.okR x hx).1
      have g1 : decide ((0 : Int) ≤ (x.2 : Nat)) = true := decide_eq_true (by omega)
      have g2 : decide (((x.2 : Nat) : Int) ≤ (x.1 : Nat) - 1) = true := decide_eq_true (by omega)
      simp only [body_eq, List.map_cons, List.map_nil, List.replicate, List.cons_append, List.nil_append, List.append_nil, R.bind_ok, R.bind_err, v_0, v_S, ev_C, ev_1, ev_2, av_N, av_C, ev_F, ev_None, ev_NotNone, ev_And, ev_Or, ev_Not, ev_If, ev_Chain, ev_Comp, ev_Tup, ev_Lst, tv_V, tv_And, tv_Or, tv_Not, tv_Yes, iv_Items, iv_A, gv_N, gv_T, gv_0, gv_C, Option.bind_some, wv_0, wv_C, at_n, at_r, at_e, wr_o, wr_e, st_Nx, st_Seq, st_Set, st_Asg, st_Drop, st_Ret, st_If, st_Raise, st_For, st_While, st_Par2, st_Par3, sto_f, sto_t, outO_s, List.set_cons_succ, List.set_cons_zero, asB_b, if_true, if_false, Bool.false_eq_true, Bool.not_true, Bool.not_false, items_l, items_t, bLen_l, bLen_t, bLen_s, bTuple_l, bTuple_t, bList_l, bList_t, idx_t, idx_l, at_0, at_1, rngA_1, rngA_2, isNone_n, isNone_i, isNone_t, isNone_l, lim0, lim1, lim2', lim3, List.length_cons, List.length_nil, Nat.reduceAdd, Nat.zero_add, isB_b, isNotB_b, ne_self okD_bl, eq_self okD_bl, decide_true, decide_false, sub_i, is_int_ok, g1, g2, Bool.and_true]⟩
  have hb1 := bAll_map (f := fun k : A => true) (xs := ps.zip ss)
  have ha : (ps.zip ss).all (fun _ => true) = true := by simp
  rw [ha] at hb1
  have hen : enumA [dR (ps.zip ss)] = .ok (((List.range (ps.zip ss).length).zip (ps.zip ss)).map fun x => .tup [.int (x.1 : Nat), dA x.2]) := by
    rw [dR, enum_t, zip_upto]
  have c2 : compL (gT (gsC (gN 5) (gsC (gN 6) gs0))) tYesF (eF PP.d_fits (aC (eCut (eV 2) oN (oS (eV 5))) (aC (eV 6) aN))) [some (dG ps), some (dG ss), some (dR (ps.zip ss)), none, none, none, none] (((List.range (ps.zip ss).length).zip (ps.zip ss)).map fun x => .tup [.int (x.1 : Nat), dA x.2]) = .ok (((List.range (ps.zip ss).length).zip (ps.zip ss)).map fun x => .bl (!((ps.zip ss).take x.1).any fun b => meets b x.2)) :=
    compL_all _ _ _ fun x hx => ⟨_, rfl, by
      have hc : D.cut none (some (x.1 : Int)) (dR (ps.zip ss)) = .ok (dR ((ps.zip ss).take x.1)) := cut_R
      have hfit := fits_R (r := (ps.zip ss).take x.1) (a := x.2) (fun b hb => hr.2 b (List.mem_of_mem_take hb)) (hr.2 _ (List.of_mem_zip hx).2)
      simp only [body_eq, List.map_cons, List.map_nil, List.replicate, List.cons_append, List.nil_append, List.append_nil, R.bind_ok, R.bind_err, v_0, v_S, ev_C, ev_1, ev_2, av_N, av_C, ev_F, ev_None, ev_NotNone, ev_And, ev_Or, ev_Not, ev_If, ev_Chain, ev_Comp, ev_Tup, ev_Lst, tv_V, tv_And, tv_Or, tv_Not, tv_Yes, iv_Items, iv_A, gv_N, gv_T, gv_0, gv_C, Option.bind_some, wv_0, wv_C, at_n, at_r, at_e, wr_o, wr_e, st_Nx, st_Seq, st_Set, st_Asg, st_Drop, st_Ret, st_If, st_Raise, st_For, st_While, st_Par2, st_Par3, sto_f, sto_t, outO_s, List.set_cons_succ, List.set_cons_zero, asB_b, if_true, if_false, Bool.false_eq_true, Bool.not_true, Bool.not_false, items_l, items_t, bLen_l, bLen_t, bLen_s, bTuple_l, bTuple_t, bList_l, bList_t, idx_t, idx_l, at_0, at_1, rngA_1, rngA_2, isNone_n, isNone_i, isNone_t, isNone_l, lim0, lim1, lim2', lim3, List.length_cons, List.length_nil, Nat.reduceAdd, Nat.zero_add, isB_b, isNotB_b, ne_self okD_bl, eq_self okD_bl, decide_true, decide_false, eCut, oN, oS, hc, hfit]⟩
  have hb2 := bAll_map (f := fun x : Nat × A => !((ps.zip ss).take x.1).any fun b => meets b x.2) (xs := (List.range (ps.zip ss).length).zip (ps.zip ss))
  simp only [PP.d_are_good, PP.s_are_good, body_eq, List.map_cons, List.map_nil, List.replicate, List.cons_append, List.nil_append, List.append_nil, R.bind_ok, R.bind_err, v_0, v_S, ev_C, ev_1, ev_2, av_N, av_C, ev_F, ev_None, ev_NotNone, ev_And, ev_Or, ev_Not, ev_If, ev_Chain, ev_Comp, ev_Tup, ev_Lst, tv_V, tv_And, tv_Or, tv_Not, tv_Yes, iv_Items, iv_A, gv_N, gv_T, gv_0, gv_C, Option.bind_some, wv_0, wv_C, at_n, at_r, at_e, wr_o, wr_e, st_Nx, st_Seq, st_Set, st_Asg, st_Drop, st_Ret, st_If, st_Raise, st_For, st_While, st_Par2, st_Par3, sto_f, sto_t, outO_s, List.set_cons_succ, List.set_cons_zero, asB_b, if_true, if_false, Bool.false_eq_true, Bool.not_true, Bool.not_false, items_l, items_t, bLen_l, bLen_t, bLen_s, bTuple_l, bTuple_t, bList_l, bList_t, idx_t, idx_l, at_0, at_1, rngA_1, rngA_2, isNone_n, isNone_i, isNone_t, isNone_l, lim0, lim1, lim2', lim3, List.length_cons, List.length_nil, Nat.reduceAdd, Nat.zero_add, isB_b, isNotB_b, ne_self okD_bl, eq_self okD_bl, decide_true, decide_false, check_periods_R h, isI_G, lenG, hne, hz, c1, hb1, zipT_G, hen, c2, hb2]
  rfl
/-! all the good ones -/
def fnd (ps : List Nat) : List (List Nat) := ps.foldl stepC [[]]
theorem mem_fnd {ps ss : List Nat} : ss ∈ fnd ps ↔ Fit ss ps := by
  rw [fnd, mem_step]
  constructor
  · rintro ⟨pre, h1, suf, rfl, h2⟩
    rw [List.mem_singleton.mp h1]; exact h2
  · intro h; exact ⟨[], by simp, ss, rfl, h⟩
theorem fnd_snoc (pre : List Nat) (x : Nat) : fnd (pre ++ [x]) = stepC (fnd pre) x := by rw [fnd, List.foldl_append]; rfl
theorem fnd_len : ∀ (n : Nat) (ps : List Nat), ps.length ≤ n → (∀ p ∈ ps, p ≤ 8) → (fnd ps).length ≤ 8 ^ n := fun n ps => by
  have : ∀ (ps : List Nat) (n k : Nat) (found : List (List Nat)), ps.length ≤ n → (∀ p ∈ ps, p ≤ 8) → found.length ≤ 8 ^ k → (ps.foldl stepC found).length ≤ 8 ^ (k + n) := fun ps => by
    induction ps with
    | nil => intro n k found _ _ hc; exact Nat.le_trans hc (Nat.pow_le_pow_right (by decide) (by omega))
    | cons p ps ih =>
      intro n k found hl hp hc
      have hn : 1 ≤ n := by rw [List.length_cons] at hl; omega
      have := ih (n - 1) (k + 1) (stepC found p) (by rw [List.length_cons] at hl; omega) (fun q hq => hp q (List.mem_cons_of_mem _ hq)) (by rw [step_len, Nat.pow_succ]; exact Nat.mul_le_mul hc (hp p (by simp)))
      rw [show k + 1 + (n - 1) = k + n by omega] at this
      exact this
  intro hl hp
  have := this ps n 0 [[]] hl hp (by decide)
  rwa [Nat.zero_add] at this
def goods (ps : List Nat) : List (List Nat) := (fnd ps).filter fun ss => pw (ps.zip ss)
def outs (pre : List Nat) (x : Nat) (ss : List Nat) : List (List Nat) := ((List.range x).filter fun s => !(pre.zip ss).any fun b => meets b (x, s)).map fun s => ss ++ [s]
theorem outs_len (pre : List Nat) (x : Nat) (ss : List Nat) : (outs pre x ss).length ≤ x := by
  have := List.length_filter_le (fun s => !(pre.zip ss).any fun b => meets b (x, s)) (List.range x)
  rw [List.length_range] at this
  rw [outs, List.length_map]; exact this
theorem flat_le {out : List Nat → List (List Nat)} {x : Nat} (h : ∀ ss, (out ss).length ≤ x) : ∀ q : List (List Nat), (q.flatMap out).length ≤ q.length * x
  | [] => by simp
  | ss :: q => by
    have := flat_le h q
    have := h ss
    rw [List.flatMap_cons, List.length_append, List.length_cons, Nat.add_mul]; omega
theorem goods_snoc (pre : List Nat) (x : Nat) : goods (pre ++ [x]) = (goods pre).flatMap (outs pre x) := by
  rw [goods, goods, fnd_snoc, stepC]
  have key : ∀ L : List (List Nat), (∀ ss ∈ L, ss.length = pre.length) → (L.flatMap fun ss => (List.range x).map fun s => ss ++ [s]).filter (fun ss => pw ((pre ++ [x]).zip ss)) = (L.filter fun ss => pw (pre.zip ss)).flatMap (outs pre x) := fun L => by
    induction L with
    | nil => intro _; rfl
    | cons ss L ih =>
      intro hl
      have ih := ih fun q hq => hl q (by simp [hq])
      have hs := hl ss (by simp)
      have hh : ((List.range x).map fun s => ss ++ [s]).filter (fun ss => pw ((pre ++ [x]).zip ss)) = if pw (pre.zip ss) = true then outs pre x ss else [] := by
        rw [List.filter_map]
        have e : ((fun ss => pw ((pre ++ [x]).zip ss)) ∘ fun s => ss ++ [s]) = fun s => pw (pre.zip ss) && !(pre.zip ss).any fun b => meets b (x, s) := by
          funext s
          show pw ((pre ++ [x]).zip (ss ++ [s])) = _
          rw [List.zip_append hs.symm]
          exact pw_snoc _ _
        rw [e]
        cases pw (pre.zip ss) with
        | true => rw [if_pos rfl, outs]; simp only [Bool.true_and]
        | false => rw [if_neg (by decide)]; simp
      rw [List.flatMap_cons, List.filter_append, hh, ih, List.filter_cons]
      split
      · rw [List.flatMap_cons]
      · rw [List.nil_append]
  exact key _ fun ss h => (mem_fnd.mp h).len
theorem goods_fit {ps ss : List Nat} (h : ss ∈ goods ps) : Fit ss ps := mem_fnd.mp (List.mem_filter.mp h).1
theorem add_GT {ss : List Nat} (s : Nat) (h : ss.length ≤ 10) : D.add (dG ss) (.tup [.int (s : Nat)]) = .ok (dG (ss ++ [s])) := by
  rw [dG, addT, if_pos (lim2 (by rw [List.length_map, List.length_singleton]; omega)), dG, List.map_append]; rfl
theorem all_good_R {ps : List Nat} (h : okQ ps) : PP.d_all_good [dG ps] = .ok (.lst ((goods ps).map dG)) := by
  have hl4 := h.len
  have hen : enumA [dG ps] = .ok (((List.range ps.length).zip ps).map fun x => .tup [.int (x.1 : Nat), .int (x.2 : Nat)]) := by
    rw [dG, enum_t, zip_upto]
  have hsnd : ((List.range ps.length).zip ps).map Prod.snd = ps := List.map_snd_zip (by rw [List.length_range]; exact Nat.le_refl _)
  obtain ⟨ρ', el, y2, y3, y4, y5, y6, q⟩ := loopF_pre (g := gT (gsC (gN 2) (gsC (gN 3) gs0))) (b := PP.b_all_good_2) (fun x : Nat × Nat => .tup [.int (x.1 : Nat), .int (x.2 : Nat)]) (fun p ρ => ∃ y2 y3 y4 y5 y6, ρ = [some (dG ps), some (.lst ((goods (p.map Prod.snd)).map dG)), y2, y3, y4, y5, y6, none]) ((List.range ps.length).zip ps) [] [some (dG ps), some (.lst [.tup []]), none, none, none, none, none, none] ⟨none, none, none, none, none, rfl⟩ (by
    rintro p ⟨n, x⟩ suf hp ρ ⟨y2, y3, y4, y5, y6, rfl⟩
    rw [List.nil_append] at hp
    have hps : p.map Prod.snd ++ x :: suf.map Prod.snd = ps := by rw [← hsnd, hp, List.map_append]; rfl
    generalize hpre : p.map Prod.snd = pre at hps
    have hx := h.rng x (by rw [← hps]; simp)
    have hpl : pre.length ≤ 3 := by rw [← hps, List.length_append, List.length_cons] at hl4; omega
    have hfl := fnd_len 3 pre hpl fun q hq => by have := (h.rng q (by rw [← hps]; simp [hq])).2; omega
    have hfl : (fnd pre).length ≤ 512 := hfl
    have hgl : (goods pre).length ≤ 512 := Nat.le_trans (List.length_filter_le _ _) hfl
    have hr : rng 0 ((x : Nat) : Int) = .ok ((List.range x).map fun k => .int (k : Nat)) := rng_nat (lim2 (by omega))
    obtain ⟨ρ2, el2, z5, z6, q2⟩ := loopF_pre (g := gN 5) (b := PP.b_all_good_1) dG (fun q ρ => ∃ y5 y6, ρ = [some (dG ps), some (.lst ((goods pre).map dG)), some (.int (n : Nat)), some (.int (x : Nat)), some (.lst ((q.flatMap (outs pre x)).map dG)), y5, y6, none]) (goods pre) [] [some (dG ps), some (.lst ((goods pre).map dG)), some (.int (n : Nat)), some (.int (x : Nat)), some (.lst []), y5, y6, none] ⟨y5, y6, rfl⟩ (by
      rintro q ss suf' hq ρ ⟨y5, y6, rfl⟩
      rw [List.nil_append] at hq
      have hss : Fit ss pre := goods_fit (by rw [hq]; simp)
      have hssl : ss.length ≤ 3 := by rw [hss.len]; exact hpl
      have hql : q.length ≤ 512 := by
        have := congrArg List.length hq
        rw [List.length_append] at this; omega
      have hzip : ps.zip ss = pre.zip ss := by
        have := List.zip_append (l₁ := pre) (l₂ := ss) (r₁ := x :: suf.map Prod.snd) (r₂ := []) hss.len.symm
        rw [List.append_nil, List.zip_nil_right, List.append_nil, hps] at this
        exact this
      have hpreQ : okQ pre := ⟨by omega, fun q hq => h.rng q (by rw [← hps]; simp [hq])⟩
      have cm : compL (gN 7) (tV (eF PP.d_fits (aC (eV 6) (aC (eTup (aC (eV 3) (aC (eV 7) aN))) aN)))) (e2 D.add (eV 5) (eTup (aC (eV 7) aN))) [some (dG ps), some (.lst ((goods pre).map dG)), some (.int (n : Nat)), some (.int (x : Nat)), some (.lst ((q.flatMap (outs pre x)).map dG)), some (dG ss), some (dR (pre.zip ss)), none] ((List.range x).map fun k => .int (k : Nat)) = .ok (((List.range x).filter fun s => !(pre.zip ss).any fun b => meets b (x, s)).map fun s => dG (ss ++ [s])) :=
        compL_ok _ _ _ _ fun s hs => ⟨_, rfl, by
          have hs := List.mem_range.mp hs
          have hf := fits_R (r := pre.zip ss) (a := (x, s)) (zip_okQ hpreQ hss).2 ⟨hx.1, by omega, hs⟩
          have hf : PP.d_fits [dR (pre.zip ss), .tup [.int (x : Nat), .int (s : Nat)]] = .ok (.bl (!(pre.zip ss).any fun b => meets b (x, s))) := hf
          simp only [body_eq, List.map_cons, List.map_nil, List.replicate, List.cons_append, List.nil_append, List.append_nil, R.bind_ok, R.bind_err, v_0, v_S, ev_C, ev_1, ev_2, av_N, av_C, ev_F, ev_None, ev_NotNone, ev_And, ev_Or, ev_Not, ev_If, ev_Chain, ev_Comp, ev_Tup, ev_Lst, tv_V, tv_And, tv_Or, tv_Not, tv_Yes, iv_Items, iv_A, gv_N, gv_T, gv_0, gv_C, Option.bind_some, wv_0, wv_C, at_n, at_r, at_e, wr_o, wr_e, st_Nx, st_Seq, st_Set, st_Asg, st_Drop, st_Ret, st_If, st_Raise, st_For, st_While, st_Par2, st_Par3, sto_f, sto_t, outO_s, List.set_cons_succ, List.set_cons_zero, asB_b, if_true, if_false, Bool.false_eq_true, Bool.not_true, Bool.not_false, items_l, items_t, bLen_l, bLen_t, bLen_s, bTuple_l, bTuple_t, bList_l, bList_t, idx_t, idx_l, at_0, at_1, rngA_1, rngA_2, isNone_n, isNone_i, isNone_t, isNone_l, lim0, lim1, lim2', lim3, List.length_cons, List.length_nil, Nat.reduceAdd, Nat.zero_add, isB_b, isNotB_b, ne_self okD_bl, eq_self okD_bl, decide_true, decide_false, hf], fun _ => by simp only [body_eq, List.map_cons, List.map_nil, List.replicate, List.cons_append, List.nil_append, List.append_nil, R.bind_ok, R.bind_err, v_0, v_S, ev_C, ev_1, ev_2, av_N, av_C, ev_F, ev_None, ev_NotNone, ev_And, ev_Or, ev_Not, ev_If, ev_Chain, ev_Comp, ev_Tup, ev_Lst, tv_V, tv_And, tv_Or, tv_Not, tv_Yes, iv_Items, iv_A, gv_N, gv_T, gv_0, gv_C, Option.bind_some, wv_0, wv_C, at_n, at_r, at_e, wr_o, wr_e, st_Nx, st_Seq, st_Set, st_Asg, st_Drop, st_Ret, st_If, st_Raise, st_For, st_While, st_Par2, st_Par3, sto_f, sto_t, outO_s, List.set_cons_succ, List.set_cons_zero, asB_b, if_true, if_false, Bool.false_eq_true, Bool.not_true, Bool.not_false, items_l, items_t, bLen_l, bLen_t, bLen_s, bTuple_l, bTuple_t, bList_l, bList_t, idx_t, idx_l, at_0, at_1, rngA_1, rngA_2, isNone_n, isNone_i, isNone_t, isNone_l, lim0, lim1, lim2', lim3, List.length_cons, List.length_nil, Nat.reduceAdd, Nat.zero_add, isB_b, isNotB_b, ne_self okD_bl, eq_self okD_bl, decide_true, decide_false, add_GT s (show ss.length ≤ 10 by omega)]⟩
      have ho : (.lst (((List.range x).filter fun s => !(pre.zip ss).any fun b => meets b (x, s)).map fun s => dG (ss ++ [s])) : D) = .lst ((outs pre x ss).map dG) := by rw [outs, List.map_map]; rfl
      have hlim : ((q.flatMap (outs pre x)).map dG).length + ((outs pre x ss).map dG).length ≤ lim := lim2 (by
        have h1 := flat_le (outs_len pre x) q
        have h2 := outs_len pre x ss
        have h3 : q.length * x ≤ 512 * 6 := Nat.mul_le_mul hql hx.2
        rw [List.length_map, List.length_map]; omega)
      have hcat : (q.flatMap (outs pre x)).map dG ++ (outs pre x ss).map dG = ((q ++ [ss]).flatMap (outs pre x)).map dG := by rw [← List.map_append, List.flatMap_append]; simp
      refine ⟨_, [some (dG ps), some (.lst ((goods pre).map dG)), some (.int (n : Nat)), some (.int (x : Nat)), some (.lst (((q ++ [ss]).flatMap (outs pre x)).map dG)), some (dG ss), some (dR (pre.zip ss)), none], rfl, ?_, ⟨_, _, rfl⟩⟩
      have hzT := zipT_G ps ss
      rw [hzip] at hzT
      simp only [PP.b_all_good_1, body_eq, List.map_cons, List.map_nil, List.replicate, List.cons_append, List.nil_append, List.append_nil, R.bind_ok, R.bind_err, v_0, v_S, ev_C, ev_1, ev_2, av_N, av_C, ev_F, ev_None, ev_NotNone, ev_And, ev_Or, ev_Not, ev_If, ev_Chain, ev_Comp, ev_Tup, ev_Lst, tv_V, tv_And, tv_Or, tv_Not, tv_Yes, iv_Items, iv_A, gv_N, gv_T, gv_0, gv_C, Option.bind_some, wv_0, wv_C, at_n, at_r, at_e, wr_o, wr_e, st_Nx, st_Seq, st_Set, st_Asg, st_Drop, st_Ret, st_If, st_Raise, st_For, st_While, st_Par2, st_Par3, sto_f, sto_t, outO_s, List.set_cons_succ, List.set_cons_zero, asB_b, if_true, if_false, Bool.false_eq_true, Bool.not_true, Bool.not_false, items_l, items_t, bLen_l, bLen_t, bLen_s, bTuple_l, bTuple_t, bList_l, bList_t, idx_t, idx_l, at_0, at_1, rngA_1, rngA_2, isNone_n, isNone_i, isNone_t, isNone_l, lim0, lim1, lim2', lim3, List.length_cons, List.length_nil, Nat.reduceAdd, Nat.zero_add, isB_b, isNotB_b, ne_self okD_bl, eq_self okD_bl, decide_true, decide_false, hzT, hr, cm, ho, st_Ext, List.getElem?_cons_succ, List.getElem?_cons_zero, if_pos hlim, hcat])
    subst q2
    have el2 : loopF (gN 5) PP.b_all_good_1 ((goods pre).map dG) [some (dG ps), some (.lst ((goods pre).map dG)), some (.int (n : Nat)), some (.int (x : Nat)), some (.lst []), y5, y6, none] = .nx [some (dG ps), some (.lst ((goods pre).map dG)), some (.int (n : Nat)), some (.int (x : Nat)), some (.lst ((goods (pre ++ [x])).map dG)), z5, z6, none] := by rw [goods_snoc]; exact el2
    have hsn : goods ((p ++ [(n, x)]).map Prod.snd) = goods (pre ++ [x]) := by rw [List.map_append, hpre]; rfl
    refine ⟨[some (dG ps), some (.lst ((goods pre).map dG)), some (.int (n : Nat)), some (.int (x : Nat)), y4, y5, y6, none], [some (dG ps), some (.lst ((goods (pre ++ [x])).map dG)), some (.int (n : Nat)), some (.int (x : Nat)), some (.lst ((goods (pre ++ [x])).map dG)), z5, z6, none], rfl, ?_, ⟨_, _, _, _, _, by rw [hsn]⟩⟩
    simp only [PP.b_all_good_2, body_eq, List.map_cons, List.map_nil, List.replicate, List.cons_append, List.nil_append, List.append_nil, R.bind_ok, R.bind_err, v_0, v_S, ev_C, ev_1, ev_2, av_N, av_C, ev_F, ev_None, ev_NotNone, ev_And, ev_Or, ev_Not, ev_If, ev_Chain, ev_Comp, ev_Tup, ev_Lst, tv_V, tv_And, tv_Or, tv_Not, tv_Yes, iv_Items, iv_A, gv_N, gv_T, gv_0, gv_C, Option.bind_some, wv_0, wv_C, at_n, at_r, at_e, wr_o, wr_e, st_Nx, st_Seq, st_Set, st_Asg, st_Drop, st_Ret, st_If, st_Raise, st_For, st_While, st_Par2, st_Par3, sto_f, sto_t, outO_s, List.set_cons_succ, List.set_cons_zero, asB_b, if_true, if_false, Bool.false_eq_true, Bool.not_true, Bool.not_false, items_l, items_t, bLen_l, bLen_t, bLen_s, bTuple_l, bTuple_t, bList_l, bList_t, idx_t, idx_l, at_0, at_1, rngA_1, rngA_2, isNone_n, isNone_i, isNone_t, isNone_l, lim0, lim1, lim2', lim3, List.length_cons, List.length_nil, Nat.reduceAdd, Nat.zero_add, isB_b, isNotB_b, ne_self okD_bl, eq_self okD_bl, decide_true, decide_false, st_SetO, el2])
  subst q
  rw [List.nil_append, hsnd] at el
  simp only [PP.d_all_good, PP.s_all_good, body_eq, List.map_cons, List.map_nil, List.replicate, List.cons_append, List.nil_append, List.append_nil, R.bind_ok, R.bind_err, v_0, v_S, ev_C, ev_1, ev_2, av_N, av_C, ev_F, ev_None, ev_NotNone, ev_And, ev_Or, ev_Not, ev_If, ev_Chain, ev_Comp, ev_Tup, ev_Lst, tv_V, tv_And, tv_Or, tv_Not, tv_Yes, iv_Items, iv_A, gv_N, gv_T, gv_0, gv_C, Option.bind_some, wv_0, wv_C, at_n, at_r, at_e, wr_o, wr_e, st_Nx, st_Seq, st_Set, st_Asg, st_Drop, st_Ret, st_If, st_Raise, st_For, st_While, st_Par2, st_Par3, sto_f, sto_t, outO_s, List.set_cons_succ, List.set_cons_zero, asB_b, if_true, if_false, Bool.false_eq_true, Bool.not_true, Bool.not_false, items_l, items_t, bLen_l, bLen_t, bLen_s, bTuple_l, bTuple_t, bList_l, bList_t, idx_t, idx_l, at_0, at_1, rngA_1, rngA_2, isNone_n, isNone_i, isNone_t, isNone_l, lim0, lim1, lim2', lim3, List.length_cons, List.length_nil, Nat.reduceAdd, Nat.zero_add, isB_b, isNotB_b, ne_self okD_bl, eq_self okD_bl, decide_true, decide_false, hen, el]
theorem check_both_R {ps : List Nat} (h : okQ ps) : PP.d_check_both [dG ps] = .ok .non := by
  simp only [PP.d_check_both, PP.s_check_both, body_eq, List.map_cons, List.map_nil, List.replicate, List.cons_append, List.nil_append, List.append_nil, R.bind_ok, R.bind_err, v_0, v_S, ev_C, ev_1, ev_2, av_N, av_C, ev_F, ev_None, ev_NotNone, ev_And, ev_Or, ev_Not, ev_If, ev_Chain, ev_Comp, ev_Tup, ev_Lst, tv_V, tv_And, tv_Or, tv_Not, tv_Yes, iv_Items, iv_A, gv_N, gv_T, gv_0, gv_C, Option.bind_some, wv_0, wv_C, at_n, at_r, at_e, wr_o, wr_e, st_Nx, st_Seq, st_Set, st_Asg, st_Drop, st_Ret, st_If, st_Raise, st_For, st_While, st_Par2, st_Par3, sto_f, sto_t, outO_s, List.set_cons_succ, List.set_cons_zero, asB_b, if_true, if_false, Bool.false_eq_true, Bool.not_true, Bool.not_false, items_l, items_t, bLen_l, bLen_t, bLen_s, bTuple_l, bTuple_t, bList_l, bList_t, idx_t, idx_l, at_0, at_1, rngA_1, rngA_2, isNone_n, isNone_i, isNone_t, isNone_l, lim0, lim1, lim2', lim3, List.length_cons, List.length_nil, Nat.reduceAdd, Nat.zero_add, isB_b, isNotB_b, ne_self okD_bl, eq_self okD_bl, decide_true, decide_false, check_periods_R h, check_product_R h]
def firstD (l : List (List Nat)) : D := match l with
  | [] => .non
  | ss :: _ => dG ss
theorem ne_lG (l : List (List Nat)) : D.ne (.lst (l.map dG)) (.lst []) = .ok (.bl (!l.isEmpty)) := by
  rw [ne_nil (okD_dGs l)]; simp
theorem good_shifts_R {ps : List Nat} (h : okQ ps) : PP.d_good_shifts [dG ps] = .ok (firstD (goods ps)) := by
  have hne := ne_lG (goods ps)
  have ha := all_good_R h
  unfold firstD
  generalize goods ps = l at hne ha
  cases l with
  | nil =>
    have hne' : D.ne (.lst []) (.lst []) = .ok (.bl false) := hne
    have ha' : PP.d_all_good [dG ps] = .ok (.lst []) := ha
    simp only [PP.d_good_shifts, PP.s_good_shifts, body_eq, List.map_cons, List.map_nil, List.replicate, List.cons_append, List.nil_append, List.append_nil, R.bind_ok, R.bind_err, v_0, v_S, ev_C, ev_1, ev_2, av_N, av_C, ev_F, ev_None, ev_NotNone, ev_And, ev_Or, ev_Not, ev_If, ev_Chain, ev_Comp, ev_Tup, ev_Lst, tv_V, tv_And, tv_Or, tv_Not, tv_Yes, iv_Items, iv_A, gv_N, gv_T, gv_0, gv_C, Option.bind_some, wv_0, wv_C, at_n, at_r, at_e, wr_o, wr_e, st_Nx, st_Seq, st_Set, st_Asg, st_Drop, st_Ret, st_If, st_Raise, st_For, st_While, st_Par2, st_Par3, sto_f, sto_t, outO_s, List.set_cons_succ, List.set_cons_zero, asB_b, if_true, if_false, Bool.false_eq_true, Bool.not_true, Bool.not_false, items_l, items_t, bLen_l, bLen_t, bLen_s, bTuple_l, bTuple_t, bList_l, bList_t, idx_t, idx_l, at_0, at_1, rngA_1, rngA_2, isNone_n, isNone_i, isNone_t, isNone_l, lim0, lim1, lim2', lim3, List.length_cons, List.length_nil, Nat.reduceAdd, Nat.zero_add, isB_b, isNotB_b, ne_self okD_bl, eq_self okD_bl, decide_true, decide_false, check_both_R h, ha', hne']
  | cons ss l =>
    have i0 : D.idx (.lst ((ss :: l).map dG)) (.int 0) = .ok (dG ss) := rfl
    have i0' : D.idx (.lst (dG ss :: l.map dG)) (.int 0) = .ok (dG ss) := rfl
    have hne' : D.ne (.lst (dG ss :: l.map dG)) (.lst []) = .ok (.bl true) := hne
    have ha' : PP.d_all_good [dG ps] = .ok (.lst (dG ss :: l.map dG)) := ha
    simp only [PP.d_good_shifts, PP.s_good_shifts, body_eq, List.map_cons, List.map_nil, List.replicate, List.cons_append, List.nil_append, List.append_nil, R.bind_ok, R.bind_err, v_0, v_S, ev_C, ev_1, ev_2, av_N, av_C, ev_F, ev_None, ev_NotNone, ev_And, ev_Or, ev_Not, ev_If, ev_Chain, ev_Comp, ev_Tup, ev_Lst, tv_V, tv_And, tv_Or, tv_Not, tv_Yes, iv_Items, iv_A, gv_N, gv_T, gv_0, gv_C, Option.bind_some, wv_0, wv_C, at_n, at_r, at_e, wr_o, wr_e, st_Nx, st_Seq, st_Set, st_Asg, st_Drop, st_Ret, st_If, st_Raise, st_For, st_While, st_Par2, st_Par3, sto_f, sto_t, outO_s, List.set_cons_succ, List.set_cons_zero, asB_b, if_true, if_false, Bool.false_eq_true, Bool.not_true, Bool.not_false, items_l, items_t, bLen_l, bLen_t, bLen_s, bTuple_l, bTuple_t, bList_l, bList_t, idx_t, idx_l, at_0, at_1, rngA_1, rngA_2, isNone_n, isNone_i, isNone_t, isNone_l, lim0, lim1, lim2', lim3, List.length_cons, List.length_nil, Nat.reduceAdd, Nat.zero_add, isB_b, isNotB_b, ne_self okD_bl, eq_self okD_bl, decide_true, decide_false, check_both_R h, ha', hne', i0']
theorem count_good_R {ps : List Nat} (h : okQ ps) : PP.d_count_good [dG ps] = .ok (.int ((goods ps).length : Nat)) := by
  have hl : D.bLen [.lst ((goods ps).map dG)] = .ok (.int ((goods ps).length : Nat)) := by rw [bLen_l, List.length_map]
  simp only [PP.d_count_good, PP.s_count_good, body_eq, List.map_cons, List.map_nil, List.replicate, List.cons_append, List.nil_append, List.append_nil, R.bind_ok, R.bind_err, v_0, v_S, ev_C, ev_1, ev_2, av_N, av_C, ev_F, ev_None, ev_NotNone, ev_And, ev_Or, ev_Not, ev_If, ev_Chain, ev_Comp, ev_Tup, ev_Lst, tv_V, tv_And, tv_Or, tv_Not, tv_Yes, iv_Items, iv_A, gv_N, gv_T, gv_0, gv_C, Option.bind_some, wv_0, wv_C, at_n, at_r, at_e, wr_o, wr_e, st_Nx, st_Seq, st_Set, st_Asg, st_Drop, st_Ret, st_If, st_Raise, st_For, st_While, st_Par2, st_Par3, sto_f, sto_t, outO_s, List.set_cons_succ, List.set_cons_zero, asB_b, if_true, if_false, Bool.false_eq_true, Bool.not_true, Bool.not_false, items_l, items_t, bLen_l, bLen_t, bLen_s, bTuple_l, bTuple_t, bList_l, bList_t, idx_t, idx_l, at_0, at_1, rngA_1, rngA_2, isNone_n, isNone_i, isNone_t, isNone_l, lim0, lim1, lim2', lim3, List.length_cons, List.length_nil, Nat.reduceAdd, Nat.zero_add, isB_b, isNotB_b, ne_self okD_bl, eq_self okD_bl, decide_true, decide_false, check_both_R h, all_good_R h, hl]
/-! what is refused -/
theorem bad_not {ps : List Nat} (h : okQ ps) {d : D} (hT : D.isI .tuple d = .ok (.bl false)) : PP.d_are_good [dG ps, d] = .ok (.bl false) := by
  simp only [PP.d_are_good, PP.s_are_good, body_eq, List.map_cons, List.map_nil, List.replicate, List.cons_append, List.nil_append, List.append_nil, R.bind_ok, R.bind_err, v_0, v_S, ev_C, ev_1, ev_2, av_N, av_C, ev_F, ev_None, ev_NotNone, ev_And, ev_Or, ev_Not, ev_If, ev_Chain, ev_Comp, ev_Tup, ev_Lst, tv_V, tv_And, tv_Or, tv_Not, tv_Yes, iv_Items, iv_A, gv_N, gv_T, gv_0, gv_C, Option.bind_some, wv_0, wv_C, at_n, at_r, at_e, wr_o, wr_e, st_Nx, st_Seq, st_Set, st_Asg, st_Drop, st_Ret, st_If, st_Raise, st_For, st_While, st_Par2, st_Par3, sto_f, sto_t, outO_s, List.set_cons_succ, List.set_cons_zero, asB_b, if_true, if_false, Bool.false_eq_true, Bool.not_true, Bool.not_false, items_l, items_t, bLen_l, bLen_t, bLen_s, bTuple_l, bTuple_t, bList_l, bList_t, idx_t, idx_l, at_0, at_1, rngA_1, rngA_2, isNone_n, isNone_i, isNone_t, isNone_l, lim0, lim1, lim2', lim3, List.length_cons, List.length_nil, Nat.reduceAdd, Nat.zero_add, isB_b, isNotB_b, ne_self okD_bl, eq_self okD_bl, decide_true, decide_false, check_periods_R h, hT]
theorem bad_len {ps : List Nat} (h : okQ ps) {ds : List D} (hl : ds.length ≠ ps.length) : PP.d_are_good [dG ps, .tup ds] = .ok (.bl false) := by
  have hT : D.isI .tuple (.tup ds) = .ok (.bl true) := rfl
  have hlx : D.bLen [.tup ds] = .ok (.int (ds.length : Nat)) := bLen_t
  have hd : decide (((ds.length : Nat) : Int) = (ps.length : Nat)) = false := decide_eq_false (by omega)
  simp only [PP.d_are_good, PP.s_are_good, body_eq, List.map_cons, List.map_nil, List.replicate, List.cons_append, List.nil_append, List.append_nil, R.bind_ok, R.bind_err, v_0, v_S, ev_C, ev_1, ev_2, av_N, av_C, ev_F, ev_None, ev_NotNone, ev_And, ev_Or, ev_Not, ev_If, ev_Chain, ev_Comp, ev_Tup, ev_Lst, tv_V, tv_And, tv_Or, tv_Not, tv_Yes, iv_Items, iv_A, gv_N, gv_T, gv_0, gv_C, Option.bind_some, wv_0, wv_C, at_n, at_r, at_e, wr_o, wr_e, st_Nx, st_Seq, st_Set, st_Asg, st_Drop, st_Ret, st_If, st_Raise, st_For, st_While, st_Par2, st_Par3, sto_f, sto_t, outO_s, List.set_cons_succ, List.set_cons_zero, asB_b, if_true, if_false, Bool.false_eq_true, Bool.not_true, Bool.not_false, items_l, items_t, bLen_l, bLen_t, bLen_s, bTuple_l, bTuple_t, bList_l, bList_t, idx_t, idx_l, at_0, at_1, rngA_1, rngA_2, isNone_n, isNone_i, isNone_t, isNone_l, lim0, lim1, lim2', lim3, List.length_cons, List.length_nil, Nat.reduceAdd, Nat.zero_add, isB_b, isNotB_b, ne_self okD_bl, eq_self okD_bl, decide_true, decide_false, check_periods_R h, hT, lenG, hlx, ne_i, hd]
theorem bad_self {ps : List Nat} (h : okQ ps) (hne : ps ≠ []) : PP.d_are_good [dG ps, dG ps] = .ok (.bl false) := by
  have hz : zipA [dG ps, dG ps] = .ok ((ps.zip ps).map dA) := zip_row ps ps
  have c1 : compL (gT (gsC (gN 3) (gsC (gN 4) gs0))) tYesF (eF PP.d_is_int (aC (eV 4) (aC (eC (.int 0)) (aC (e2 D.sub (eV 3) (eC (.int 1))) aN)))) [some (dG ps), some (dG ps), none, none, none, none, none] ((ps.zip ps).map dA) = .ok ((ps.zip ps).map fun x => .bl (decide (x.2 < x.1))) :=
    compL_all _ _ _ fun x hx => ⟨_, rfl, by
      have g1 : decide ((0 : Int) ≤ (x.2 : Nat)) = true := decide_eq_true (by omega)
      have g2 : decide (((x.2 : Nat) : Int) ≤ (x.1 : Nat) - 1) = decide (x.2 < x.1) := by rw [Bool.eq_iff_iff, decide_eq_true_eq, decide_eq_true_eq]; omega
      simp only [body_eq, List.map_cons, List.map_nil, List.replicate, List.cons_append, List.nil_append, List.append_nil, R.bind_ok, R.bind_err, v_0, v_S, ev_C, ev_1, ev_2, av_N, av_C, ev_F, ev_None, ev_NotNone, ev_And, ev_Or, ev_Not, ev_If, ev_Chain, ev_Comp, ev_Tup, ev_Lst, tv_V, tv_And, tv_Or, tv_Not, tv_Yes, iv_Items, iv_A, gv_N, gv_T, gv_0, gv_C, Option.bind_some, wv_0, wv_C, at_n, at_r, at_e, wr_o, wr_e, st_Nx, st_Seq, st_Set, st_Asg, st_Drop, st_Ret, st_If, st_Raise, st_For, st_While, st_Par2, st_Par3, sto_f, sto_t, outO_s, List.set_cons_succ, List.set_cons_zero, asB_b, if_true, if_false, Bool.false_eq_true, Bool.not_true, Bool.not_false, items_l, items_t, bLen_l, bLen_t, bLen_s, bTuple_l, bTuple_t, bList_l, bList_t, idx_t, idx_l, at_0, at_1, rngA_1, rngA_2, isNone_n, isNone_i, isNone_t, isNone_l, lim0, lim1, lim2', lim3, List.length_cons, List.length_nil, Nat.reduceAdd, Nat.zero_add, isB_b, isNotB_b, ne_self okD_bl, eq_self okD_bl, decide_true, decide_false, sub_i, is_int_ok, g1, g2, Bool.true_and]⟩
  have hb1 := bAll_map (f := fun x : A => decide (x.2 < x.1)) (xs := ps.zip ps)
  have ha : (ps.zip ps).all (fun x => decide (x.2 < x.1)) = false := by
    obtain ⟨p, pt, e⟩ := List.exists_cons_of_ne_nil hne
    rw [e, List.zip_cons_cons, List.all_cons, decide_eq_false (Nat.lt_irrefl _), Bool.false_and]
  rw [ha] at hb1
  simp only [PP.d_are_good, PP.s_are_good, body_eq, List.map_cons, List.map_nil, List.replicate, List.cons_append, List.nil_append, List.append_nil, R.bind_ok, R.bind_err, v_0, v_S, ev_C, ev_1, ev_2, av_N, av_C, ev_F, ev_None, ev_NotNone, ev_And, ev_Or, ev_Not, ev_If, ev_Chain, ev_Comp, ev_Tup, ev_Lst, tv_V, tv_And, tv_Or, tv_Not, tv_Yes, iv_Items, iv_A, gv_N, gv_T, gv_0, gv_C, Option.bind_some, wv_0, wv_C, at_n, at_r, at_e, wr_o, wr_e, st_Nx, st_Seq, st_Set, st_Asg, st_Drop, st_Ret, st_If, st_Raise, st_For, st_While, st_Par2, st_Par3, sto_f, sto_t, outO_s, List.set_cons_succ, List.set_cons_zero, asB_b, if_true, if_false, Bool.false_eq_true, Bool.not_true, Bool.not_false, items_l, items_t, bLen_l, bLen_t, bLen_s, bTuple_l, bTuple_t, bList_l, bList_t, idx_t, idx_l, at_0, at_1, rngA_1, rngA_2, isNone_n, isNone_i, isNone_t, isNone_l, lim0, lim1, lim2', lim3, List.length_cons, List.length_nil, Nat.reduceAdd, Nat.zero_add, isB_b, isNotB_b, ne_self okD_bl, eq_self okD_bl, decide_true, decide_false, check_periods_R h, isI_G, lenG, ne_self okD_int, hz, c1, hb1]
theorem cut_l (l : List (List Nat)) (lo hi : Option Int) : D.cut lo hi (.lst (l.map dG)) = .ok (.lst ((D.cutL l lo hi).map dG)) := by
  show R.ok (D.lst (D.cutL (l.map dG) lo hi)) = _
  simp only [D.cutL, List.length_map, List.map_take, List.map_drop]
theorem cut_mem {l : List (List Nat)} {lo hi : Option Int} {x : List Nat} (h : x ∈ D.cutL l lo hi) : x ∈ l := List.mem_of_mem_drop (List.mem_of_mem_take h)
theorem cut_len' (l : List (List Nat)) (lo hi : Option Int) : (D.cutL l lo hi).length ≤ l.length := by
  rw [D.cutL, List.length_take, List.length_drop]; omega
theorem rows_map : ∀ l : List (List Nat), D.rowsOf (l.map dG) = some (l.map castL)
  | [] => rfl
  | ss :: l => by
    have h := intsOf_map (f := fun k : Nat => (k : Int)) ss
    have ih := rows_map l
    show D.rowsOf (.tup (ss.map fun k => .int (k : Nat)) :: l.map dG) = _
    unfold D.rowsOf
    rw [h, ih]; rfl
theorem inT_G (ss : List Nat) (l : List (List Nat)) : D.inT (dG ss) (.lst (l.map dG)) = .ok (.bl (l.contains ss)) := by
  have h := intsOf_map (f := fun k : Nat => (k : Int)) ss
  have h2 := rows_map l
  have e : (l.map castL).contains (castL ss) = l.contains ss := by
    rw [Bool.eq_iff_iff, List.contains_iff_mem, List.contains_iff_mem, List.mem_map]
    exact ⟨fun ⟨x, h1, h2⟩ => by rw [← castL_inj h2]; exact h1, fun h => ⟨_, h, rfl⟩⟩
  have hd : D.inT (dG ss) (.lst (l.map dG)) = match D.intsOf (ss.map fun k => .int (k : Nat)), D.rowsOf (l.map dG) with
    | some l, some ls => .ok (.bl (ls.contains l))
    | _, _ => .stuck := rfl
  rw [hd, h, h2, ← e]; rfl
theorem okD_first (l : List (List Nat)) : okD (firstD l) := by
  cases l with
  | nil => exact okD_non
  | cons ss l => exact okD_dG ss
section
variable {ns : List Int} {i : Nat}
theorem build (hn : ns.length ≤ 63) (hi : i < 2) (x4 x5 x6 x7 x8 x9 x10 x11 x12 : Option D) : ∃ ps m y4 y5, okQ ps ∧
    sFor (sA rngA (aC (eF PP.d__law_pick (aC (eV 0) (aC (e2 D.mul (eC (.int 20)) (eV 1)) (aC (eC (.int 5)) aN)))) aN)) (gN 4) b_law_1 [some (.scr ns), some (.int (i : Nat)), some (.lst []), some (.int 1), x4, x5, x6, x7, x8, x9, x10, x11, x12] = .nx [some (.scr ns), some (.int (i : Nat)), some (dN ps), some (.int (m : Nat)), y4, y5, x6, x7, x8, x9, x10, x11, x12] := by
  obtain ⟨v, hv, ev⟩ := pick_ok hn (20 * i) 5 (by omega) (by omega)
  have ev : PP.d__law_pick [.scr ns, .int (20 * (i : Int)), .int 5] = .ok (.int v) := by rw [← ev]; congr 3
  have hm : D.mul (.int 20) (.int (i : Int)) = .ok (.int (20 * (i : Int))) := mul_i (.inl (by decide))
  have hr : rng 0 ((v : Nat) : Int) = .ok ((List.range v).map fun k => .int (k : Nat)) := rng_nat (lim2 (by omega))
  obtain ⟨ρ', el, ps, m, y4, y5, q, q1, q2, q3⟩ := loopF_run (g := gN 4) (b := b_law_1) (fun k : Nat => .int (k : Nat)) (fun J ρ => ∃ ps m y4 y5, ρ = [some (.scr ns), some (.int (i : Nat)), some (dN ps), some (.int (m : Nat)), y4, y5, x6, x7, x8, x9, x10, x11, x12] ∧ ps.length ≤ J ∧ (∀ p ∈ ps, 1 ≤ p ∧ p ≤ 6) ∧ m ≤ 100) [some (.scr ns), some (.int (i : Nat)), some (.lst []), some (.int 1), x4, x5, x6, x7, x8, x9, x10, x11, x12] ⟨[], 1, x4, x5, rfl, Nat.le_refl _, by simp, by decide⟩ v (by
    rintro J hJ ρ ⟨ps, m, y4, y5, rfl, q1, q2, q3⟩
    obtain ⟨w, hw, ew⟩ := pick_ok hn (20 * i + 1 + J) 7 (by omega) (by omega)
    have e' : 20 * (i : Int) + 1 + (J : Nat) = ((20 * i + 1 + J : Nat) : Int) := by omega
    have ew : PP.d__law_pick [.scr ns, .int (20 * (i : Int) + 1 + (J : Nat)), .int 7] = .ok (.int w) := by rw [e']; exact ew
    obtain ⟨d, hd, ed⟩ := at_mem (xs := [.int 1, .int 2, .int 2, .int 3, .int 4, .int 4, .int 6]) (v := w) hw
    obtain ⟨p, p1, p2, rfl⟩ : ∃ p : Nat, 1 ≤ p ∧ p ≤ 6 ∧ d = .int (p : Nat) := by
      simp only [List.mem_cons, List.not_mem_nil, or_false] at hd
      rcases hd with rfl | rfl | rfl | rfl | rfl | rfl | rfl
      · exact ⟨1, by decide, by decide, rfl⟩
      · exact ⟨2, by decide, by decide, rfl⟩
      · exact ⟨2, by decide, by decide, rfl⟩
      · exact ⟨3, by decide, by decide, rfl⟩
      · exact ⟨4, by decide, by decide, rfl⟩
      · exact ⟨4, by decide, by decide, rfl⟩
      · exact ⟨6, by decide, by decide, rfl⟩
    have lim7 : (7 ≤ lim) = True := eq_true (by decide)
    have hmul : D.mul (.int (m : Nat)) (.int (p : Nat)) = .ok (.int ((m * p : Nat) : Int)) := mul_n (by omega)
    have hle : decide (((m * p : Nat) : Int) ≤ 100) = decide (m * p ≤ 100) := by rw [Bool.eq_iff_iff, decide_eq_true_eq, decide_eq_true_eq]; omega
    by_cases hc : m * p ≤ 100
    · rw [decide_eq_true hc] at hle
      have hll : (ps.map fun k : Nat => D.int (k : Nat)).length < lim := by rw [List.length_map]; exact Nat.lt_of_lt_of_le (show _ < 1000000 by omega) (lim2 (Nat.le_refl _))
      have happ : (ps.map fun k : Nat => D.int (k : Nat)) ++ [D.int (p : Nat)] = (ps ++ [p]).map fun k : Nat => D.int (k : Nat) := by rw [List.map_append]; rfl
      refine ⟨_, [some (.scr ns), some (.int (i : Nat)), some (dN (ps ++ [p])), some (.int ((m * p : Nat) : Int)), some (.int (J : Nat)), some (.int (p : Nat)), x6, x7, x8, x9, x10, x11, x12], rfl, ?_, ⟨ps ++ [p], m * p, _, _, rfl, by rw [List.length_append, List.length_singleton]; omega, fun x hx => ?_, hc⟩⟩
      · simp only [b_law_1, body_eq, List.map_cons, List.map_nil, List.replicate, List.cons_append, List.nil_append, List.append_nil, R.bind_ok, R.bind_err, v_0, v_S, ev_C, ev_1, ev_2, av_N, av_C, ev_F, ev_None, ev_NotNone, ev_And, ev_Or, ev_Not, ev_If, ev_Chain, ev_Comp, ev_Tup, ev_Lst, tv_V, tv_And, tv_Or, tv_Not, tv_Yes, iv_Items, iv_A, gv_N, gv_T, gv_0, gv_C, Option.bind_some, wv_0, wv_C, at_n, at_r, at_e, wr_o, wr_e, st_Nx, st_Seq, st_Set, st_Asg, st_Drop, st_Ret, st_If, st_Raise, st_For, st_While, st_Par2, st_Par3, sto_f, sto_t, outO_s, List.set_cons_succ, List.set_cons_zero, asB_b, if_true, if_false, Bool.false_eq_true, Bool.not_true, Bool.not_false, items_l, items_t, bLen_l, bLen_t, bLen_s, bTuple_l, bTuple_t, bList_l, bList_t, idx_t, idx_l, at_0, at_1, rngA_1, rngA_2, isNone_n, isNone_i, isNone_t, isNone_l, lim0, lim1, lim2', lim3, List.length_cons, List.length_nil, Nat.reduceAdd, Nat.zero_add, isB_b, isNotB_b, ne_self okD_bl, eq_self okD_bl, decide_true, decide_false, hm, add_i, ew, lim7, ed, hmul, le_i, hle, st_App, List.getElem?_cons_succ, List.getElem?_cons_zero]
        simp only [dN, body_eq, List.map_cons, List.map_nil, List.replicate, List.cons_append, List.nil_append, List.append_nil, R.bind_ok, R.bind_err, v_0, v_S, ev_C, ev_1, ev_2, av_N, av_C, ev_F, ev_None, ev_NotNone, ev_And, ev_Or, ev_Not, ev_If, ev_Chain, ev_Comp, ev_Tup, ev_Lst, tv_V, tv_And, tv_Or, tv_Not, tv_Yes, iv_Items, iv_A, gv_N, gv_T, gv_0, gv_C, Option.bind_some, wv_0, wv_C, at_n, at_r, at_e, wr_o, wr_e, st_Nx, st_Seq, st_Set, st_Asg, st_Drop, st_Ret, st_If, st_Raise, st_For, st_While, st_Par2, st_Par3, sto_f, sto_t, outO_s, List.set_cons_succ, List.set_cons_zero, asB_b, if_true, if_false, Bool.false_eq_true, Bool.not_true, Bool.not_false, items_l, items_t, bLen_l, bLen_t, bLen_s, bTuple_l, bTuple_t, bList_l, bList_t, idx_t, idx_l, at_0, at_1, rngA_1, rngA_2, isNone_n, isNone_i, isNone_t, isNone_l, lim0, lim1, lim2', lim3, List.length_cons, List.length_nil, Nat.reduceAdd, Nat.zero_add, isB_b, isNotB_b, ne_self okD_bl, eq_self okD_bl, decide_true, decide_false, if_pos hll, happ, hmul]
      · rcases List.mem_append.mp hx with h | h
        · exact q2 x h
        · rw [List.mem_singleton.mp h]; exact ⟨p1, p2⟩
    · rw [decide_eq_false hc] at hle
      refine ⟨_, [some (.scr ns), some (.int (i : Nat)), some (dN ps), some (.int (m : Nat)), some (.int (J : Nat)), some (.int (p : Nat)), x6, x7, x8, x9, x10, x11, x12], rfl, ?_, ⟨ps, m, _, _, rfl, by omega, q2, q3⟩⟩
      simp only [b_law_1, body_eq, List.map_cons, List.map_nil, List.replicate, List.cons_append, List.nil_append, List.append_nil, R.bind_ok, R.bind_err, v_0, v_S, ev_C, ev_1, ev_2, av_N, av_C, ev_F, ev_None, ev_NotNone, ev_And, ev_Or, ev_Not, ev_If, ev_Chain, ev_Comp, ev_Tup, ev_Lst, tv_V, tv_And, tv_Or, tv_Not, tv_Yes, iv_Items, iv_A, gv_N, gv_T, gv_0, gv_C, Option.bind_some, wv_0, wv_C, at_n, at_r, at_e, wr_o, wr_e, st_Nx, st_Seq, st_Set, st_Asg, st_Drop, st_Ret, st_If, st_Raise, st_For, st_While, st_Par2, st_Par3, sto_f, sto_t, outO_s, List.set_cons_succ, List.set_cons_zero, asB_b, if_true, if_false, Bool.false_eq_true, Bool.not_true, Bool.not_false, items_l, items_t, bLen_l, bLen_t, bLen_s, bTuple_l, bTuple_t, bList_l, bList_t, idx_t, idx_l, at_0, at_1, rngA_1, rngA_2, isNone_n, isNone_i, isNone_t, isNone_l, lim0, lim1, lim2', lim3, List.length_cons, List.length_nil, Nat.reduceAdd, Nat.zero_add, isB_b, isNotB_b, ne_self okD_bl, eq_self okD_bl, decide_true, decide_false, hm, add_i, ew, lim7, ed, hmul, le_i, hle])
  subst q
  exact ⟨ps, m, y4, y5, ⟨by omega, q2⟩, by simp only [body_eq, List.map_cons, List.map_nil, List.replicate, List.cons_append, List.nil_append, List.append_nil, R.bind_ok, R.bind_err, v_0, v_S, ev_C, ev_1, ev_2, av_N, av_C, ev_F, ev_None, ev_NotNone, ev_And, ev_Or, ev_Not, ev_If, ev_Chain, ev_Comp, ev_Tup, ev_Lst, tv_V, tv_And, tv_Or, tv_Not, tv_Yes, iv_Items, iv_A, gv_N, gv_T, gv_0, gv_C, Option.bind_some, wv_0, wv_C, at_n, at_r, at_e, wr_o, wr_e, st_Nx, st_Seq, st_Set, st_Asg, st_Drop, st_Ret, st_If, st_Raise, st_For, st_While, st_Par2, st_Par3, sto_f, sto_t, outO_s, List.set_cons_succ, List.set_cons_zero, asB_b, if_true, if_false, Bool.false_eq_true, Bool.not_true, Bool.not_false, items_l, items_t, bLen_l, bLen_t, bLen_s, bTuple_l, bTuple_t, bList_l, bList_t, idx_t, idx_l, at_0, at_1, rngA_1, rngA_2, isNone_n, isNone_i, isNone_t, isNone_l, lim0, lim1, lim2', lim3, List.length_cons, List.length_nil, Nat.reduceAdd, Nat.zero_add, isB_b, isNotB_b, ne_self okD_bl, eq_self okD_bl, decide_true, decide_false, hm, ev, hr]; exact el⟩
theorem every {ps : List Nat} (h : okQ ps) (x3 x4 x5 x6 x7 x8 x9 x10 x11 x12 : Option D) : ∃ y5 y7 y8, loopF (gN 5) b_law_3 (ps.map fun k => .int (k : Nat)) [some (.scr ns), some (.int (i : Nat)), some (dG ps), x3, x4, x5, some (.lst [.tup []]), x7, x8, x9, x10, x11, x12] = .nx [some (.scr ns), some (.int (i : Nat)), some (dG ps), x3, x4, y5, some (.lst ((fnd ps).map dG)), y7, y8, x9, x10, x11, x12] := by
  have hl4 := h.len
  obtain ⟨ρ', el, y5, y7, y8, q⟩ := loopF_pre (g := gN 5) (b := b_law_3) (fun k : Nat => .int (k : Nat)) (fun pre ρ => ∃ y5 y7 y8, ρ = [some (.scr ns), some (.int (i : Nat)), some (dG ps), x3, x4, y5, some (.lst ((fnd pre).map dG)), y7, y8, x9, x10, x11, x12]) ps [] [some (.scr ns), some (.int (i : Nat)), some (dG ps), x3, x4, x5, some (.lst [.tup []]), x7, x8, x9, x10, x11, x12] ⟨x5, x7, x8, rfl⟩ (by
    rintro pre p suf hpre ρ ⟨y5, y7, y8, rfl⟩
    rw [List.nil_append] at hpre
    have hx := h.rng p (by rw [hpre]; simp)
    have hpl : pre.length ≤ 3 := by rw [hpre, List.length_append, List.length_cons] at hl4; omega
    have hfl := fnd_len 3 pre hpl fun q hq => by have := (h.rng q (by rw [hpre]; simp [hq])).2; omega
    have hfl : (fnd pre).length ≤ 512 := hfl
    have hr : rng 0 ((p : Nat) : Int) = .ok ((List.range p).map fun k => .int (k : Nat)) := rng_nat (lim2 (by omega))
    obtain ⟨ρ2, el2, z8, q2⟩ := loopF_pre (g := gN 8) (b := b_law_2) dG (fun q ρ => ∃ y8, ρ = [some (.scr ns), some (.int (i : Nat)), some (dG ps), x3, x4, some (.int (p : Nat)), some (.lst ((fnd pre).map dG)), some (.lst ((stepC q p).map dG)), y8, x9, x10, x11, x12]) (fnd pre) [] [some (.scr ns), some (.int (i : Nat)), some (dG ps), x3, x4, some (.int (p : Nat)), some (.lst ((fnd pre).map dG)), some (.lst []), y8, x9, x10, x11, x12] ⟨y8, rfl⟩ (by
      rintro q ss suf' hq ρ ⟨y8, rfl⟩
      rw [List.nil_append] at hq
      have hss : Fit ss pre := mem_fnd.mp (by rw [hq]; simp)
      have hssl : ss.length ≤ 3 := by rw [hss.len]; exact hpl
      have hql : q.length ≤ 512 := by
        have := congrArg List.length hq
        rw [List.length_append] at this; omega
      have cm : compL (gN 11) tYesF (e2 D.add (eV 8) (eTup (aC (eV 11) aN))) [some (.scr ns), some (.int (i : Nat)), some (dG ps), x3, x4, some (.int (p : Nat)), some (.lst ((fnd pre).map dG)), some (.lst ((stepC q p).map dG)), some (dG ss), x9, x10, none, x12] ((List.range p).map fun k => .int (k : Nat)) = .ok ((List.range p).map fun s => dG (ss ++ [s])) :=
        compL_all _ _ _ fun s _ => ⟨_, rfl, by simp only [body_eq, List.map_cons, List.map_nil, List.replicate, List.cons_append, List.nil_append, List.append_nil, R.bind_ok, R.bind_err, v_0, v_S, ev_C, ev_1, ev_2, av_N, av_C, ev_F, ev_None, ev_NotNone, ev_And, ev_Or, ev_Not, ev_If, ev_Chain, ev_Comp, ev_Tup, ev_Lst, tv_V, tv_And, tv_Or, tv_Not, tv_Yes, iv_Items, iv_A, gv_N, gv_T, gv_0, gv_C, Option.bind_some, wv_0, wv_C, at_n, at_r, at_e, wr_o, wr_e, st_Nx, st_Seq, st_Set, st_Asg, st_Drop, st_Ret, st_If, st_Raise, st_For, st_While, st_Par2, st_Par3, sto_f, sto_t, outO_s, List.set_cons_succ, List.set_cons_zero, asB_b, if_true, if_false, Bool.false_eq_true, Bool.not_true, Bool.not_false, items_l, items_t, bLen_l, bLen_t, bLen_s, bTuple_l, bTuple_t, bList_l, bList_t, idx_t, idx_l, at_0, at_1, rngA_1, rngA_2, isNone_n, isNone_i, isNone_t, isNone_l, lim0, lim1, lim2', lim3, List.length_cons, List.length_nil, Nat.reduceAdd, Nat.zero_add, isB_b, isNotB_b, ne_self okD_bl, eq_self okD_bl, decide_true, decide_false, add_GT s (show ss.length ≤ 10 by omega)]⟩
      have ho : (.lst ((List.range p).map fun s => dG (ss ++ [s])) : D) = .lst (((List.range p).map fun s => ss ++ [s]).map dG) := by rw [List.map_map]; rfl
      have es : stepC (q ++ [ss]) p = stepC q p ++ (List.range p).map fun s => ss ++ [s] := by rw [stepC, List.flatMap_append]; simp [stepC]
      have hlim : ((stepC q p).map dG).length + (((List.range p).map fun s => ss ++ [s]).map dG).length ≤ lim := lim2 (by
        have h3 : q.length * p ≤ 512 * 6 := Nat.mul_le_mul hql hx.2
        rw [List.length_map, List.length_map, List.length_map, List.length_range, step_len]; omega)
      have hcat : (stepC q p).map dG ++ ((List.range p).map fun s => ss ++ [s]).map dG = (stepC (q ++ [ss]) p).map dG := by rw [es, List.map_append]
      refine ⟨_, [some (.scr ns), some (.int (i : Nat)), some (dG ps), x3, x4, some (.int (p : Nat)), some (.lst ((fnd pre).map dG)), some (.lst ((stepC (q ++ [ss]) p).map dG)), some (dG ss), x9, x10, x11, x12], rfl, ?_, ⟨_, rfl⟩⟩
      simp only [b_law_2, body_eq, List.map_cons, List.map_nil, List.replicate, List.cons_append, List.nil_append, List.append_nil, R.bind_ok, R.bind_err, v_0, v_S, ev_C, ev_1, ev_2, av_N, av_C, ev_F, ev_None, ev_NotNone, ev_And, ev_Or, ev_Not, ev_If, ev_Chain, ev_Comp, ev_Tup, ev_Lst, tv_V, tv_And, tv_Or, tv_Not, tv_Yes, iv_Items, iv_A, gv_N, gv_T, gv_0, gv_C, Option.bind_some, wv_0, wv_C, at_n, at_r, at_e, wr_o, wr_e, st_Nx, st_Seq, st_Set, st_Asg, st_Drop, st_Ret, st_If, st_Raise, st_For, st_While, st_Par2, st_Par3, sto_f, sto_t, outO_s, List.set_cons_succ, List.set_cons_zero, asB_b, if_true, if_false, Bool.false_eq_true, Bool.not_true, Bool.not_false, items_l, items_t, bLen_l, bLen_t, bLen_s, bTuple_l, bTuple_t, bList_l, bList_t, idx_t, idx_l, at_0, at_1, rngA_1, rngA_2, isNone_n, isNone_i, isNone_t, isNone_l, lim0, lim1, lim2', lim3, List.length_cons, List.length_nil, Nat.reduceAdd, Nat.zero_add, isB_b, isNotB_b, ne_self okD_bl, eq_self okD_bl, decide_true, decide_false, hr, cm, ho, st_Ext, List.getElem?_cons_succ, List.getElem?_cons_zero, if_pos hlim, hcat])
    subst q2
    have el2 : loopF (gN 8) b_law_2 ((fnd pre).map dG) [some (.scr ns), some (.int (i : Nat)), some (dG ps), x3, x4, some (.int (p : Nat)), some (.lst ((fnd pre).map dG)), some (.lst []), y8, x9, x10, x11, x12] = .nx [some (.scr ns), some (.int (i : Nat)), some (dG ps), x3, x4, some (.int (p : Nat)), some (.lst ((fnd pre).map dG)), some (.lst ((fnd (pre ++ [p])).map dG)), z8, x9, x10, x11, x12] := by rw [fnd_snoc]; exact el2
    refine ⟨_, [some (.scr ns), some (.int (i : Nat)), some (dG ps), x3, x4, some (.int (p : Nat)), some (.lst ((fnd (pre ++ [p])).map dG)), some (.lst ((fnd (pre ++ [p])).map dG)), z8, x9, x10, x11, x12], rfl, ?_, ⟨_, _, _, rfl⟩⟩
    simp only [b_law_3, body_eq, List.map_cons, List.map_nil, List.replicate, List.cons_append, List.nil_append, List.append_nil, R.bind_ok, R.bind_err, v_0, v_S, ev_C, ev_1, ev_2, av_N, av_C, ev_F, ev_None, ev_NotNone, ev_And, ev_Or, ev_Not, ev_If, ev_Chain, ev_Comp, ev_Tup, ev_Lst, tv_V, tv_And, tv_Or, tv_Not, tv_Yes, iv_Items, iv_A, gv_N, gv_T, gv_0, gv_C, Option.bind_some, wv_0, wv_C, at_n, at_r, at_e, wr_o, wr_e, st_Nx, st_Seq, st_Set, st_Asg, st_Drop, st_Ret, st_If, st_Raise, st_For, st_While, st_Par2, st_Par3, sto_f, sto_t, outO_s, List.set_cons_succ, List.set_cons_zero, asB_b, if_true, if_false, Bool.false_eq_true, Bool.not_true, Bool.not_false, items_l, items_t, bLen_l, bLen_t, bLen_s, bTuple_l, bTuple_t, bList_l, bList_t, idx_t, idx_l, at_0, at_1, rngA_1, rngA_2, isNone_n, isNone_i, isNone_t, isNone_l, lim0, lim1, lim2', lim3, List.length_cons, List.length_nil, Nat.reduceAdd, Nat.zero_add, isB_b, isNotB_b, ne_self okD_bl, eq_self okD_bl, decide_true, decide_false, st_SetO, el2])
  subst q
  exact ⟨y5, y7, y8, el⟩
end
theorem turn {ns : List Int} {i : Nat} (hn : ns.length ≤ 63) (hi : i < 2) (x2 x3 x4 x5 x6 x7 x8 x9 x10 x11 x12 : Option D) : ∃ ρ2, b_law_5 [some (.scr ns), some (.int (i : Nat)), x2, x3, x4, x5, x6, x7, x8, x9, x10, x11, x12] = .nx ρ2 ∧ ∃ x1 x2 x3 x4 x5 x6 x7 x8 x9 x10 x11 x12, ρ2 = [some (.scr ns), x1, x2, x3, x4, x5, x6, x7, x8, x9, x10, x11, x12] := by
  obtain ⟨ps, m, y4, y5, h, e2'⟩ := build hn hi x4 x5 x6 x7 x8 x9 x10 x11 x12
  obtain ⟨y5', y7, y8, el⟩ := every (ns := ns) (i := i) h (some (.int (m : Nat))) y4 y5 x6 x7 x8 x9 x10 x11 x12
  have hl4 := h.len
  have hfl := fnd_len 4 ps hl4 fun q hq => by have := (h.rng q hq).2; omega
  have hfl : (fnd ps).length ≤ 4096 := hfl
  have c9 : compL (gN 8) (tV (eF d__law_apart (aC (eV 2) (aC (eV 8) aN)))) (eV 8) [some (.scr ns), some (.int (i : Nat)), some (dG ps), some (.int (m : Nat)), y4, y5', some (.lst ((fnd ps).map dG)), y7, none, x9, x10, x11, x12] ((fnd ps).map dG) = .ok ((goods ps).map dG) :=
    compL_ok _ _ _ _ fun ss hss => ⟨_, rfl, by
      have ha := apart_R h (mem_fnd.mp hss)
      simp only [body_eq, List.map_cons, List.map_nil, List.replicate, List.cons_append, List.nil_append, List.append_nil, R.bind_ok, R.bind_err, v_0, v_S, ev_C, ev_1, ev_2, av_N, av_C, ev_F, ev_None, ev_NotNone, ev_And, ev_Or, ev_Not, ev_If, ev_Chain, ev_Comp, ev_Tup, ev_Lst, tv_V, tv_And, tv_Or, tv_Not, tv_Yes, iv_Items, iv_A, gv_N, gv_T, gv_0, gv_C, Option.bind_some, wv_0, wv_C, at_n, at_r, at_e, wr_o, wr_e, st_Nx, st_Seq, st_Set, st_Asg, st_Drop, st_Ret, st_If, st_Raise, st_For, st_While, st_Par2, st_Par3, sto_f, sto_t, outO_s, List.set_cons_succ, List.set_cons_zero, asB_b, if_true, if_false, Bool.false_eq_true, Bool.not_true, Bool.not_false, items_l, items_t, bLen_l, bLen_t, bLen_s, bTuple_l, bTuple_t, bList_l, bList_t, idx_t, idx_l, at_0, at_1, rngA_1, rngA_2, isNone_n, isNone_i, isNone_t, isNone_l, lim0, lim1, lim2', lim3, List.length_cons, List.length_nil, Nat.reduceAdd, Nat.zero_add, isB_b, isNotB_b, ne_self okD_bl, eq_self okD_bl, decide_true, decide_false, ha], fun _ => by simp only [body_eq, List.map_cons, List.map_nil, List.replicate, List.cons_append, List.nil_append, List.append_nil, R.bind_ok, R.bind_err, v_0, v_S, ev_C, ev_1, ev_2, av_N, av_C, ev_F, ev_None, ev_NotNone, ev_And, ev_Or, ev_Not, ev_If, ev_Chain, ev_Comp, ev_Tup, ev_Lst, tv_V, tv_And, tv_Or, tv_Not, tv_Yes, iv_Items, iv_A, gv_N, gv_T, gv_0, gv_C, Option.bind_some, wv_0, wv_C, at_n, at_r, at_e, wr_o, wr_e, st_Nx, st_Seq, st_Set, st_Asg, st_Drop, st_Ret, st_If, st_Raise, st_For, st_While, st_Par2, st_Par3, sto_f, sto_t, outO_s, List.set_cons_succ, List.set_cons_zero, asB_b, if_true, if_false, Bool.false_eq_true, Bool.not_true, Bool.not_false, items_l, items_t, bLen_l, bLen_t, bLen_s, bTuple_l, bTuple_t, bList_l, bList_t, idx_t, idx_l, at_0, at_1, rngA_1, rngA_2, isNone_n, isNone_i, isNone_t, isNone_l, lim0, lim1, lim2', lim3, List.length_cons, List.length_nil, Nat.reduceAdd, Nat.zero_add, isB_b, isNotB_b, ne_self okD_bl, eq_self okD_bl, decide_true, decide_false]⟩
  have hgs := good_shifts_R h
  have hcg := count_good_R h
  have hneg := ne_lG (goods ps)
  have hlg : D.bLen [.lst ((goods ps).map dG)] = .ok (.int ((goods ps).length : Nat)) := by rw [bLen_l, List.length_map]
  have hG9 : ∀ (l : List (List Nat)), (if (!l.isEmpty) = true then D.at? (l.map dG) 0 else R.ok .non) = .ok (firstD l) := fun l => by cases l <;> rfl
  -- some of them
  have hcut1 := cut_l (fnd ps) none (some 6)
  have hcut2 := cut_l (fnd ps) (some (-4)) none
  have hadd : D.add (.lst ((D.cutL (fnd ps) none (some 6)).map dG)) (.lst ((D.cutL (fnd ps) (some (-4)) none).map dG)) = .ok (.lst ((D.cutL (fnd ps) none (some 6) ++ D.cutL (fnd ps) (some (-4)) none).map dG)) := by
    have h1 := cut_len' (fnd ps) none (some 6)
    have h2 := cut_len' (fnd ps) (some (-4)) none
    rw [add_ll (lim2 (by rw [List.length_map, List.length_map]; omega)), List.map_append]
  have hmem : ∀ ss ∈ D.cutL (fnd ps) none (some 6) ++ D.cutL (fnd ps) (some (-4)) none, ss ∈ fnd ps := fun ss hss => by
    rcases List.mem_append.mp hss with q | q
    · exact cut_mem q
    · exact cut_mem q
  generalize D.cutL (fnd ps) none (some 6) ++ D.cutL (fnd ps) (some (-4)) none = sm at hadd hmem
  obtain ⟨ρ', el4, z8, q⟩ := loopF_inv (g := gN 8) (b := b_law_4) (fun ρ => ∃ z8, ρ = [some (.scr ns), some (.int (i : Nat)), some (dG ps), some (.int (m : Nat)), y4, y5', some (.lst ((fnd ps).map dG)), y7, z8, some (.lst ((goods ps).map dG)), x10, x11, x12]) (sm.map dG) [some (.scr ns), some (.int (i : Nat)), some (dG ps), some (.int (m : Nat)), y4, y5', some (.lst ((fnd ps).map dG)), y7, y8, some (.lst ((goods ps).map dG)), x10, x11, x12] ⟨y8, rfl⟩ (by
    rintro x hx ρ ⟨z8, rfl⟩
    obtain ⟨ss, hss, rfl⟩ := List.mem_map.mp hx
    have hf := mem_fnd.mp (hmem ss hss)
    have hg := good_R h hf
    have hin := inT_G ss (goods ps)
    have hc : (goods ps).contains ss = pw (ps.zip ss) := by
      rw [Bool.eq_iff_iff, List.contains_iff_mem, goods, List.mem_filter]
      exact ⟨fun q => q.2, fun q => ⟨mem_fnd.mpr hf, q⟩⟩
    rw [hc] at hin
    have hbe : ∀ b : Bool, (!(b == b)) = false := fun b => by cases b <;> rfl
    refine ⟨_, [some (.scr ns), some (.int (i : Nat)), some (dG ps), some (.int (m : Nat)), y4, y5', some (.lst ((fnd ps).map dG)), y7, some (dG ss), some (.lst ((goods ps).map dG)), x10, x11, x12], rfl, ?_, ⟨_, rfl⟩⟩
    simp only [b_law_4, body_eq, List.map_cons, List.map_nil, List.replicate, List.cons_append, List.nil_append, List.append_nil, R.bind_ok, R.bind_err, v_0, v_S, ev_C, ev_1, ev_2, av_N, av_C, ev_F, ev_None, ev_NotNone, ev_And, ev_Or, ev_Not, ev_If, ev_Chain, ev_Comp, ev_Tup, ev_Lst, tv_V, tv_And, tv_Or, tv_Not, tv_Yes, iv_Items, iv_A, gv_N, gv_T, gv_0, gv_C, Option.bind_some, wv_0, wv_C, at_n, at_r, at_e, wr_o, wr_e, st_Nx, st_Seq, st_Set, st_Asg, st_Drop, st_Ret, st_If, st_Raise, st_For, st_While, st_Par2, st_Par3, sto_f, sto_t, outO_s, List.set_cons_succ, List.set_cons_zero, asB_b, if_true, if_false, Bool.false_eq_true, Bool.not_true, Bool.not_false, items_l, items_t, bLen_l, bLen_t, bLen_s, bTuple_l, bTuple_t, bList_l, bList_t, idx_t, idx_l, at_0, at_1, rngA_1, rngA_2, isNone_n, isNone_i, isNone_t, isNone_l, lim0, lim1, lim2', lim3, List.length_cons, List.length_nil, Nat.reduceAdd, Nat.zero_add, isB_b, isNotB_b, ne_self okD_bl, eq_self okD_bl, decide_true, decide_false, hg, hin, ne_bl, hbe])
  subst q
  -- the bad ones
  obtain ⟨b2, hb2, eb2⟩ : ∃ b2, (if (!(goods ps).isEmpty) = true then ((D.at? ((goods ps).map dG) 0).bind fun x => R.ok [x]).bind D.bList else R.ok (.int 5)) = .ok b2 ∧ D.isI .tuple b2 = .ok (.bl false) := by
    cases goods ps with
    | nil => exact ⟨_, rfl, rfl⟩
    | cons ss l => exact ⟨_, rfl, rfl⟩
  have hm7 : D.mul (.tup [.int 0]) (.int 7) = .ok (.tup [.int 0, .int 0, .int 0, .int 0, .int 0, .int 0, .int 0]) := rfl
  have c5 : compL (gN 5) tYesF (e2 D.sub (eC (.int 0)) (eC (.int 1))) [some (.scr ns), some (.int (i : Nat)), some (dG ps), some (.int (m : Nat)), y4, none, some (.lst ((fnd ps).map dG)), y7, z8, some (.lst ((goods ps).map dG)), x10, x11, x12] (ps.map fun k => .int (k : Nat)) = .ok (ps.map fun _ => .int (-1)) :=
    compL_all _ _ _ fun k _ => ⟨_, rfl, rfl⟩
  have hadd4 : D.add (.tup (ps.map fun _ => .int (-1))) (.tup [.int 0]) = .ok (.tup ((ps.map fun _ => .int (-1)) ++ [.int 0])) := by
    rw [addT, if_pos (lim2 (by rw [List.length_map, List.length_singleton]; omega))]
  obtain ⟨b6, hb6, eb6⟩ : ∃ b6, (if (!ps.isEmpty) = true then ((D.bList [dG ps]).bind fun x => R.ok [x]).bind D.bTuple else R.ok (.tup [.int 1])) = .ok b6 ∧ PP.d_are_good [dG ps, b6] = .ok (.bl false) := by
    by_cases hz : ps = []
    · refine ⟨.tup [.int 1], by rw [hz]; rfl, bad_len h (by rw [hz]; decide)⟩
    · refine ⟨dG ps, ?_, bad_self h hz⟩
      have : (!ps.isEmpty) = true := by cases ps with | nil => exact absurd rfl hz | cons _ _ => rfl
      rw [if_pos this]; rfl
  have hnt : D.ne (dG ps) (.tup []) = .ok (.bl (!ps.isEmpty)) := by
    have := ne_tnil (okD_dG ps)
    rw [List.isEmpty_map] at this
    exact this
  have g1 := bad_not h (d := .non) rfl
  have g2 := bad_not h eb2
  have g3 : PP.d_are_good [dG ps, .tup [.int 0, .int 0, .int 0, .int 0, .int 0, .int 0, .int 0]] = .ok (.bl false) := bad_len h (by show 7 ≠ ps.length; omega)
  have g4 : PP.d_are_good [dG ps, .tup ((ps.map fun _ => .int (-1)) ++ [.int 0])] = .ok (.bl false) := bad_len h (by rw [List.length_append, List.length_map, List.length_singleton]; omega)
  have g5 := bad_not h (d := .str "a") rfl
  have lim5 : (5 ≤ lim) = True := eq_true (by decide)
  have hlt5 : (5 < lim) = True := eq_true (by decide)
  have c12 : compL (gN 12) tYesF (e2 D.isNotB (eF PP.d_are_good (aC (eV 2) (aC (eV 12) aN))) (eC (.bl false))) [some (.scr ns), some (.int (i : Nat)), some (dG ps), some (.int (m : Nat)), y4, y5', some (.lst ((fnd ps).map dG)), y7, z8, some (.lst ((goods ps).map dG)), some (.lst [.non, b2, .tup [.int 0, .int 0, .int 0, .int 0, .int 0, .int 0, .int 0], .tup ((ps.map fun _ => .int (-1)) ++ [.int 0]), .str "a", b6]), x11, none] [.non, b2, .tup [.int 0, .int 0, .int 0, .int 0, .int 0, .int 0, .int 0], .tup ((ps.map fun _ => .int (-1)) ++ [.int 0]), .str "a", b6] = .ok [.bl false, .bl false, .bl false, .bl false, .bl false, .bl false] := by
    have t : ∀ (d : D), PP.d_are_good [dG ps, d] = .ok (.bl false) → (e2 D.isNotB (eF PP.d_are_good (aC (eV 2) (aC (eV 12) aN))) (eC (.bl false))) [some (.scr ns), some (.int (i : Nat)), some (dG ps), some (.int (m : Nat)), y4, y5', some (.lst ((fnd ps).map dG)), y7, z8, some (.lst ((goods ps).map dG)), some (.lst [.non, b2, .tup [.int 0, .int 0, .int 0, .int 0, .int 0, .int 0, .int 0], .tup ((ps.map fun _ => .int (-1)) ++ [.int 0]), .str "a", b6]), x11, some (d)] = .ok (.bl false) := fun d hd => by simp only [body_eq, List.map_cons, List.map_nil, List.replicate, List.cons_append, List.nil_append, List.append_nil, R.bind_ok, R.bind_err, v_0, v_S, ev_C, ev_1, ev_2, av_N, av_C, ev_F, ev_None, ev_NotNone, ev_And, ev_Or, ev_Not, ev_If, ev_Chain, ev_Comp, ev_Tup, ev_Lst, tv_V, tv_And, tv_Or, tv_Not, tv_Yes, iv_Items, iv_A, gv_N, gv_T, gv_0, gv_C, Option.bind_some, wv_0, wv_C, at_n, at_r, at_e, wr_o, wr_e, st_Nx, st_Seq, st_Set, st_Asg, st_Drop, st_Ret, st_If, st_Raise, st_For, st_While, st_Par2, st_Par3, sto_f, sto_t, outO_s, List.set_cons_succ, List.set_cons_zero, asB_b, if_true, if_false, Bool.false_eq_true, Bool.not_true, Bool.not_false, items_l, items_t, bLen_l, bLen_t, bLen_s, bTuple_l, bTuple_t, bList_l, bList_t, idx_t, idx_l, at_0, at_1, rngA_1, rngA_2, isNone_n, isNone_i, isNone_t, isNone_l, lim0, lim1, lim2', lim3, List.length_cons, List.length_nil, Nat.reduceAdd, Nat.zero_add, isB_b, isNotB_b, ne_self okD_bl, eq_self okD_bl, decide_true, decide_false, hd]
    simp only [compL, gv_N, tv_Yes, List.set_cons_succ, List.set_cons_zero, t _ g1, t _ g2, t _ g3, t _ g4, t _ g5, t _ eb6]
  have hany : D.bAny [.lst [.bl false, .bl false, .bl false, .bl false, .bl false, .bl false]] = .ok (.bl false) := rfl
  refine ⟨[some (.scr ns), some (.int (i : Nat)), some (dG ps), some (.int (m : Nat)), y4, y5', some (.lst ((fnd ps).map dG)), y7, z8, some (.lst ((goods ps).map dG)), some (.lst [.non, b2, .tup [.int 0, .int 0, .int 0, .int 0, .int 0, .int 0, .int 0], .tup ((ps.map fun _ => .int (-1)) ++ [.int 0]), .str "a", b6]), x11, x12], ?_, ⟨_, _, _, _, _, _, _, _, _, _, _, _, rfl⟩⟩
  refine seq_to (?h1 : _ = Out.nx [some (.scr ns), some (.int (i : Nat)), some (.lst []), some (.int 1), x4, x5, x6, x7, x8, x9, x10, x11, x12]) ?_
  case h1 => rfl
  refine seq_to (?h1 : _ = Out.nx [some (.scr ns), some (.int (i : Nat)), some (dN ps), some (.int (m : Nat)), y4, y5, x6, x7, x8, x9, x10, x11, x12]) ?_
  case h1 => exact e2'
  refine seq_to (?h1 : _ = Out.nx [some (.scr ns), some (.int (i : Nat)), some (dG ps), some (.int (m : Nat)), y4, y5, x6, x7, x8, x9, x10, x11, x12]) ?_
  case h1 => simp only [body_eq, List.map_cons, List.map_nil, List.replicate, List.cons_append, List.nil_append, List.append_nil, R.bind_ok, R.bind_err, v_0, v_S, ev_C, ev_1, ev_2, av_N, av_C, ev_F, ev_None, ev_NotNone, ev_And, ev_Or, ev_Not, ev_If, ev_Chain, ev_Comp, ev_Tup, ev_Lst, tv_V, tv_And, tv_Or, tv_Not, tv_Yes, iv_Items, iv_A, gv_N, gv_T, gv_0, gv_C, Option.bind_some, wv_0, wv_C, at_n, at_r, at_e, wr_o, wr_e, st_Nx, st_Seq, st_Set, st_Asg, st_Drop, st_Ret, st_If, st_Raise, st_For, st_While, st_Par2, st_Par3, sto_f, sto_t, outO_s, List.set_cons_succ, List.set_cons_zero, asB_b, if_true, if_false, Bool.false_eq_true, Bool.not_true, Bool.not_false, items_l, items_t, bLen_l, bLen_t, bLen_s, bTuple_l, bTuple_t, bList_l, bList_t, idx_t, idx_l, at_0, at_1, rngA_1, rngA_2, isNone_n, isNone_i, isNone_t, isNone_l, lim0, lim1, lim2', lim3, List.length_cons, List.length_nil, Nat.reduceAdd, Nat.zero_add, isB_b, isNotB_b, ne_self okD_bl, eq_self okD_bl, decide_true, decide_false, dG_N]
  refine seq_to (?h1 : _ = Out.nx [some (.scr ns), some (.int (i : Nat)), some (dG ps), some (.int (m : Nat)), y4, y5, some (.lst [.tup []]), x7, x8, x9, x10, x11, x12]) ?_
  case h1 => simp only [body_eq, List.map_cons, List.map_nil, List.replicate, List.cons_append, List.nil_append, List.append_nil, R.bind_ok, R.bind_err, v_0, v_S, ev_C, ev_1, ev_2, av_N, av_C, ev_F, ev_None, ev_NotNone, ev_And, ev_Or, ev_Not, ev_If, ev_Chain, ev_Comp, ev_Tup, ev_Lst, tv_V, tv_And, tv_Or, tv_Not, tv_Yes, iv_Items, iv_A, gv_N, gv_T, gv_0, gv_C, Option.bind_some, wv_0, wv_C, at_n, at_r, at_e, wr_o, wr_e, st_Nx, st_Seq, st_Set, st_Asg, st_Drop, st_Ret, st_If, st_Raise, st_For, st_While, st_Par2, st_Par3, sto_f, sto_t, outO_s, List.set_cons_succ, List.set_cons_zero, asB_b, if_true, if_false, Bool.false_eq_true, Bool.not_true, Bool.not_false, items_l, items_t, bLen_l, bLen_t, bLen_s, bTuple_l, bTuple_t, bList_l, bList_t, idx_t, idx_l, at_0, at_1, rngA_1, rngA_2, isNone_n, isNone_i, isNone_t, isNone_l, lim0, lim1, lim2', lim3, List.length_cons, List.length_nil, Nat.reduceAdd, Nat.zero_add, isB_b, isNotB_b, ne_self okD_bl, eq_self okD_bl, decide_true, decide_false]
  refine seq_to (?h1 : _ = Out.nx [some (.scr ns), some (.int (i : Nat)), some (dG ps), some (.int (m : Nat)), y4, y5', some (.lst ((fnd ps).map dG)), y7, y8, x9, x10, x11, x12]) ?_
  case h1 => 
    simp only [st_For, iv_Items, v_S, v_0, R.bind_ok, itemsG, wr_o]
    exact el
  refine seq_to (?h1 : _ = Out.nx [some (.scr ns), some (.int (i : Nat)), some (dG ps), some (.int (m : Nat)), y4, y5', some (.lst ((fnd ps).map dG)), y7, y8, some (.lst ((goods ps).map dG)), x10, x11, x12]) ?_
  case h1 => simp only [body_eq, List.map_cons, List.map_nil, List.replicate, List.cons_append, List.nil_append, List.append_nil, R.bind_ok, R.bind_err, v_0, v_S, ev_C, ev_1, ev_2, av_N, av_C, ev_F, ev_None, ev_NotNone, ev_And, ev_Or, ev_Not, ev_If, ev_Chain, ev_Comp, ev_Tup, ev_Lst, tv_V, tv_And, tv_Or, tv_Not, tv_Yes, iv_Items, iv_A, gv_N, gv_T, gv_0, gv_C, Option.bind_some, wv_0, wv_C, at_n, at_r, at_e, wr_o, wr_e, st_Nx, st_Seq, st_Set, st_Asg, st_Drop, st_Ret, st_If, st_Raise, st_For, st_While, st_Par2, st_Par3, sto_f, sto_t, outO_s, List.set_cons_succ, List.set_cons_zero, asB_b, if_true, if_false, Bool.false_eq_true, Bool.not_true, Bool.not_false, items_l, items_t, bLen_l, bLen_t, bLen_s, bTuple_l, bTuple_t, bList_l, bList_t, idx_t, idx_l, at_0, at_1, rngA_1, rngA_2, isNone_n, isNone_i, isNone_t, isNone_l, lim0, lim1, lim2', lim3, List.length_cons, List.length_nil, Nat.reduceAdd, Nat.zero_add, isB_b, isNotB_b, ne_self okD_bl, eq_self okD_bl, decide_true, decide_false, c9]
  refine seq_to (?h1 : _ = Out.nx [some (.scr ns), some (.int (i : Nat)), some (dG ps), some (.int (m : Nat)), y4, y5', some (.lst ((fnd ps).map dG)), y7, y8, some (.lst ((goods ps).map dG)), x10, x11, x12]) ?_
  case h1 => 
    have hg := hG9 (goods ps)
    simp only [body_eq, List.map_cons, List.map_nil, List.replicate, List.cons_append, List.nil_append, List.append_nil, R.bind_ok, R.bind_err, v_0, v_S, ev_C, ev_1, ev_2, av_N, av_C, ev_F, ev_None, ev_NotNone, ev_And, ev_Or, ev_Not, ev_If, ev_Chain, ev_Comp, ev_Tup, ev_Lst, tv_V, tv_And, tv_Or, tv_Not, tv_Yes, iv_Items, iv_A, gv_N, gv_T, gv_0, gv_C, Option.bind_some, wv_0, wv_C, at_n, at_r, at_e, wr_o, wr_e, st_Nx, st_Seq, st_Set, st_Asg, st_Drop, st_Ret, st_If, st_Raise, st_For, st_While, st_Par2, st_Par3, sto_f, sto_t, outO_s, List.set_cons_succ, List.set_cons_zero, asB_b, if_true, if_false, Bool.false_eq_true, Bool.not_true, Bool.not_false, items_l, items_t, bLen_l, bLen_t, bLen_s, bTuple_l, bTuple_t, bList_l, bList_t, idx_t, idx_l, at_0, at_1, rngA_1, rngA_2, isNone_n, isNone_i, isNone_t, isNone_l, lim0, lim1, lim2', lim3, List.length_cons, List.length_nil, Nat.reduceAdd, Nat.zero_add, isB_b, isNotB_b, ne_self okD_bl, eq_self okD_bl, decide_true, decide_false, hgs, hneg, hcg, hlg, ne_self okD_int]
    rw [hg]
    simp only [body_eq, List.map_cons, List.map_nil, List.replicate, List.cons_append, List.nil_append, List.append_nil, R.bind_ok, R.bind_err, v_0, v_S, ev_C, ev_1, ev_2, av_N, av_C, ev_F, ev_None, ev_NotNone, ev_And, ev_Or, ev_Not, ev_If, ev_Chain, ev_Comp, ev_Tup, ev_Lst, tv_V, tv_And, tv_Or, tv_Not, tv_Yes, iv_Items, iv_A, gv_N, gv_T, gv_0, gv_C, Option.bind_some, wv_0, wv_C, at_n, at_r, at_e, wr_o, wr_e, st_Nx, st_Seq, st_Set, st_Asg, st_Drop, st_Ret, st_If, st_Raise, st_For, st_While, st_Par2, st_Par3, sto_f, sto_t, outO_s, List.set_cons_succ, List.set_cons_zero, asB_b, if_true, if_false, Bool.false_eq_true, Bool.not_true, Bool.not_false, items_l, items_t, bLen_l, bLen_t, bLen_s, bTuple_l, bTuple_t, bList_l, bList_t, idx_t, idx_l, at_0, at_1, rngA_1, rngA_2, isNone_n, isNone_i, isNone_t, isNone_l, lim0, lim1, lim2', lim3, List.length_cons, List.length_nil, Nat.reduceAdd, Nat.zero_add, isB_b, isNotB_b, ne_self okD_bl, eq_self okD_bl, decide_true, decide_false, ne_self (okD_first _)]
  refine seq_to (?h1 : _ = Out.nx [some (.scr ns), some (.int (i : Nat)), some (dG ps), some (.int (m : Nat)), y4, y5', some (.lst ((fnd ps).map dG)), y7, z8, some (.lst ((goods ps).map dG)), x10, x11, x12]) ?_
  case h1 => 
    simp only [body_eq, List.map_cons, List.map_nil, List.replicate, List.cons_append, List.nil_append, List.append_nil, R.bind_ok, R.bind_err, v_0, v_S, ev_C, ev_1, ev_2, av_N, av_C, ev_F, ev_None, ev_NotNone, ev_And, ev_Or, ev_Not, ev_If, ev_Chain, ev_Comp, ev_Tup, ev_Lst, tv_V, tv_And, tv_Or, tv_Not, tv_Yes, iv_Items, iv_A, gv_N, gv_T, gv_0, gv_C, Option.bind_some, wv_0, wv_C, at_n, at_r, at_e, wr_o, wr_e, st_Nx, st_Seq, st_Set, st_Asg, st_Drop, st_Ret, st_If, st_Raise, st_For, st_While, st_Par2, st_Par3, sto_f, sto_t, outO_s, List.set_cons_succ, List.set_cons_zero, asB_b, if_true, if_false, Bool.false_eq_true, Bool.not_true, Bool.not_false, items_l, items_t, bLen_l, bLen_t, bLen_s, bTuple_l, bTuple_t, bList_l, bList_t, idx_t, idx_l, at_0, at_1, rngA_1, rngA_2, isNone_n, isNone_i, isNone_t, isNone_l, lim0, lim1, lim2', lim3, List.length_cons, List.length_nil, Nat.reduceAdd, Nat.zero_add, isB_b, isNotB_b, ne_self okD_bl, eq_self okD_bl, decide_true, decide_false, eCut, oN, oS, neg_i, hcut1, hcut2, hadd]
    exact el4
  refine seq_to (?h1 : _ = Out.nx [some (.scr ns), some (.int (i : Nat)), some (dG ps), some (.int (m : Nat)), y4, y5', some (.lst ((fnd ps).map dG)), y7, z8, some (.lst ((goods ps).map dG)), some (.lst [.non, b2, .tup [.int 0, .int 0, .int 0, .int 0, .int 0, .int 0, .int 0], .tup ((ps.map fun _ => .int (-1)) ++ [.int 0]), .str "a"]), x11, x12]) ?_
  case h1 => 
    simp only [body_eq, List.map_cons, List.map_nil, List.replicate, List.cons_append, List.nil_append, List.append_nil, R.bind_ok, R.bind_err, v_0, v_S, ev_C, ev_1, ev_2, av_N, av_C, ev_F, ev_None, ev_NotNone, ev_And, ev_Or, ev_Not, ev_If, ev_Chain, ev_Comp, ev_Tup, ev_Lst, tv_V, tv_And, tv_Or, tv_Not, tv_Yes, iv_Items, iv_A, gv_N, gv_T, gv_0, gv_C, Option.bind_some, wv_0, wv_C, at_n, at_r, at_e, wr_o, wr_e, st_Nx, st_Seq, st_Set, st_Asg, st_Drop, st_Ret, st_If, st_Raise, st_For, st_While, st_Par2, st_Par3, sto_f, sto_t, outO_s, List.set_cons_succ, List.set_cons_zero, asB_b, if_true, if_false, Bool.false_eq_true, Bool.not_true, Bool.not_false, items_l, items_t, bLen_l, bLen_t, bLen_s, bTuple_l, bTuple_t, bList_l, bList_t, idx_t, idx_l, at_0, at_1, rngA_1, rngA_2, isNone_n, isNone_i, isNone_t, isNone_l, lim0, lim1, lim2', lim3, List.length_cons, List.length_nil, Nat.reduceAdd, Nat.zero_add, isB_b, isNotB_b, ne_self okD_bl, eq_self okD_bl, decide_true, decide_false, hneg, st_SetO]
    rw [hb2]
    simp only [body_eq, List.map_cons, List.map_nil, List.replicate, List.cons_append, List.nil_append, List.append_nil, R.bind_ok, R.bind_err, v_0, v_S, ev_C, ev_1, ev_2, av_N, av_C, ev_F, ev_None, ev_NotNone, ev_And, ev_Or, ev_Not, ev_If, ev_Chain, ev_Comp, ev_Tup, ev_Lst, tv_V, tv_And, tv_Or, tv_Not, tv_Yes, iv_Items, iv_A, gv_N, gv_T, gv_0, gv_C, Option.bind_some, wv_0, wv_C, at_n, at_r, at_e, wr_o, wr_e, st_Nx, st_Seq, st_Set, st_Asg, st_Drop, st_Ret, st_If, st_Raise, st_For, st_While, st_Par2, st_Par3, sto_f, sto_t, outO_s, List.set_cons_succ, List.set_cons_zero, asB_b, if_true, if_false, Bool.false_eq_true, Bool.not_true, Bool.not_false, items_l, items_t, bLen_l, bLen_t, bLen_s, bTuple_l, bTuple_t, bList_l, bList_t, idx_t, idx_l, at_0, at_1, rngA_1, rngA_2, isNone_n, isNone_i, isNone_t, isNone_l, lim0, lim1, lim2', lim3, List.length_cons, List.length_nil, Nat.reduceAdd, Nat.zero_add, isB_b, isNotB_b, ne_self okD_bl, eq_self okD_bl, decide_true, decide_false, hm7, itemsG, c5, hadd4, lim5, st_SetO]
  refine seq_to (?h1 : _ = Out.nx [some (.scr ns), some (.int (i : Nat)), some (dG ps), some (.int (m : Nat)), y4, y5', some (.lst ((fnd ps).map dG)), y7, z8, some (.lst ((goods ps).map dG)), some (.lst [.non, b2, .tup [.int 0, .int 0, .int 0, .int 0, .int 0, .int 0, .int 0], .tup ((ps.map fun _ => .int (-1)) ++ [.int 0]), .str "a", b6]), x11, x12]) ?_
  case h1 => 
    simp only [body_eq, List.map_cons, List.map_nil, List.replicate, List.cons_append, List.nil_append, List.append_nil, R.bind_ok, R.bind_err, v_0, v_S, ev_C, ev_1, ev_2, av_N, av_C, ev_F, ev_None, ev_NotNone, ev_And, ev_Or, ev_Not, ev_If, ev_Chain, ev_Comp, ev_Tup, ev_Lst, tv_V, tv_And, tv_Or, tv_Not, tv_Yes, iv_Items, iv_A, gv_N, gv_T, gv_0, gv_C, Option.bind_some, wv_0, wv_C, at_n, at_r, at_e, wr_o, wr_e, st_Nx, st_Seq, st_Set, st_Asg, st_Drop, st_Ret, st_If, st_Raise, st_For, st_While, st_Par2, st_Par3, sto_f, sto_t, outO_s, List.set_cons_succ, List.set_cons_zero, asB_b, if_true, if_false, Bool.false_eq_true, Bool.not_true, Bool.not_false, items_l, items_t, bLen_l, bLen_t, bLen_s, bTuple_l, bTuple_t, bList_l, bList_t, idx_t, idx_l, at_0, at_1, rngA_1, rngA_2, isNone_n, isNone_i, isNone_t, isNone_l, lim0, lim1, lim2', lim3, List.length_cons, List.length_nil, Nat.reduceAdd, Nat.zero_add, isB_b, isNotB_b, ne_self okD_bl, eq_self okD_bl, decide_true, decide_false, hnt, st_App, List.getElem?_cons_succ, List.getElem?_cons_zero]
    rw [hb6]
    simp only [body_eq, List.map_cons, List.map_nil, List.replicate, List.cons_append, List.nil_append, List.append_nil, R.bind_ok, R.bind_err, v_0, v_S, ev_C, ev_1, ev_2, av_N, av_C, ev_F, ev_None, ev_NotNone, ev_And, ev_Or, ev_Not, ev_If, ev_Chain, ev_Comp, ev_Tup, ev_Lst, tv_V, tv_And, tv_Or, tv_Not, tv_Yes, iv_Items, iv_A, gv_N, gv_T, gv_0, gv_C, Option.bind_some, wv_0, wv_C, at_n, at_r, at_e, wr_o, wr_e, st_Nx, st_Seq, st_Set, st_Asg, st_Drop, st_Ret, st_If, st_Raise, st_For, st_While, st_Par2, st_Par3, sto_f, sto_t, outO_s, List.set_cons_succ, List.set_cons_zero, asB_b, if_true, if_false, Bool.false_eq_true, Bool.not_true, Bool.not_false, items_l, items_t, bLen_l, bLen_t, bLen_s, bTuple_l, bTuple_t, bList_l, bList_t, idx_t, idx_l, at_0, at_1, rngA_1, rngA_2, isNone_n, isNone_i, isNone_t, isNone_l, lim0, lim1, lim2', lim3, List.length_cons, List.length_nil, Nat.reduceAdd, Nat.zero_add, isB_b, isNotB_b, ne_self okD_bl, eq_self okD_bl, decide_true, decide_false, hlt5]
  simp only [body_eq, List.map_cons, List.map_nil, List.replicate, List.cons_append, List.nil_append, List.append_nil, R.bind_ok, R.bind_err, v_0, v_S, ev_C, ev_1, ev_2, av_N, av_C, ev_F, ev_None, ev_NotNone, ev_And, ev_Or, ev_Not, ev_If, ev_Chain, ev_Comp, ev_Tup, ev_Lst, tv_V, tv_And, tv_Or, tv_Not, tv_Yes, iv_Items, iv_A, gv_N, gv_T, gv_0, gv_C, Option.bind_some, wv_0, wv_C, at_n, at_r, at_e, wr_o, wr_e, st_Nx, st_Seq, st_Set, st_Asg, st_Drop, st_Ret, st_If, st_Raise, st_For, st_While, st_Par2, st_Par3, sto_f, sto_t, outO_s, List.set_cons_succ, List.set_cons_zero, asB_b, if_true, if_false, Bool.false_eq_true, Bool.not_true, Bool.not_false, items_l, items_t, bLen_l, bLen_t, bLen_s, bTuple_l, bTuple_t, bList_l, bList_t, idx_t, idx_l, at_0, at_1, rngA_1, rngA_2, isNone_n, isNone_i, isNone_t, isNone_l, lim0, lim1, lim2', lim3, List.length_cons, List.length_nil, Nat.reduceAdd, Nat.zero_add, isB_b, isNotB_b, ne_self okD_bl, eq_self okD_bl, decide_true, decide_false, c12, hany]
theorem c9 (ρ : Env) : (eAnd (e2 D.isB (eF PP.d_are_good (aC (eTup (aC (eC (.int 1)) aN)) (aC (eTup (aC (eC (.bl true)) aN)) aN))) (eC (.bl false))) (eAnd (eNone (eF PP.d_good_shifts (aC (eTup (aC (eC (.int 2)) (aC (eC (.int 2)) (aC (eC (.int 4)) aN)))) aN))) (e2 D.eq (eF PP.d_count_good (aC (eTup aN) aN)) (eC (.int 1))))) ρ = .ok (.bl true) := by
  have : (eAnd (e2 D.isB (eF PP.d_are_good (aC (eTup (aC (eC (.int 1)) aN)) (aC (eTup (aC (eC (.bl true)) aN)) aN))) (eC (.bl false))) (eAnd (eNone (eF PP.d_good_shifts (aC (eTup (aC (eC (.int 2)) (aC (eC (.int 2)) (aC (eC (.int 4)) aN)))) aN))) (e2 D.eq (eF PP.d_count_good (aC (eTup aN) aN)) (eC (.int 1))))) [] = .ok (.bl true) := of_isTrue (by decide +kernel)
  exact this
theorem law_true (ns : List Int) (hn : ns.length ≤ 63) : d_law [.scr ns] = .ok (.bl true) := by
  obtain ⟨ρ2, e1, x1, x2, x3, x4, x5, x6, x7, x8, x9, x10, x11, x12, -⟩ := loopF_inv (g := gN 1) (b := b_law_5) (fun ρ => ∃ x1 x2 x3 x4 x5 x6 x7 x8 x9 x10 x11 x12, ρ = [some (.scr ns), x1, x2, x3, x4, x5, x6, x7, x8, x9, x10, x11, x12]) ((List.range 2).map fun k => .int (k : Nat)) [some (.scr ns), none, none, none, none, none, none, none, none, none, none, none, none] ⟨_, _, _, _, _, _, _, _, _, _, _, _, rfl⟩ (by
    rintro x hx ρ ⟨x1, x2, x3, x4, x5, x6, x7, x8, x9, x10, x11, x12, rfl⟩
    obtain ⟨i, hi, rfl⟩ := List.mem_map.mp hx
    obtain ⟨ρ2, h1, h2⟩ := turn hn (List.mem_range.mp hi) x2 x3 x4 x5 x6 x7 x8 x9 x10 x11 x12
    exact ⟨_, ρ2, rfl, h1, h2⟩)
  simp only [d_law, s_law, body_eq, List.map_cons, List.map_nil, List.replicate, List.cons_append, List.nil_append, st_Seq, st_For, iv_A, av_C, av_N, ev_C, rngA_1, R.bind_ok]
  rw [show rng 0 2 = .ok ((List.range 2).map fun k => .int (k : Nat)) from rng_nat (n := 2) (lim2 (by decide))]
  simp only [R.bind_ok, wr_o, e1, at_n, st_Ret, c9]
end k20_whole_shifts
end RT

open PySem PySem.W PyProof.Rows
set_option maxHeartbeats 0 in
theorem PySem.Challenge.cw_ringtimes_k20_whole_shifts_holds : PySem.Challenge.rw_ringtimes_k20_whole_shifts.Holds := by
  w_on; o_law; k_head; (case hw => w_witness2)
  k_fill
  refine L2.walk_of (l := PySem.Challenge.rw_ringtimes_k20_whole_shifts) (n := 63) (k := 6) (x := "_law_script") (CX := fun w => L2.CX PySem.Challenge.rw_ringtimes_k20_whole_shifts.prog w) (sp := fun w => RT.spLaw _) rfl (by decide) rfl ⟨rfl, by decide, by decide⟩ (fun w h Y => PySem.W.kIn_of Y) ?F (fun w H a ns hl _ hS => ⟨a, ns, rfl, hS, hl, fun _ => rfl⟩) (fun w H s e s2 h => RT.cx_end H s e s2 h)
  case F =>
    intro w mg fa h KX G hmg
    refine' RT.k20_whole_shifts.all_mk KX G hmg RT.k20_whole_shifts.law_true ?a0 ?l0 ?c0 ?k0 ?a1 ?l1 ?c1 ?k1 ?a2 ?l2 ?c2 ?k2 ?a3 ?l3 ?c3 ?k3 ?a4 ?l4 ?c4 ?k4 ?a5 ?l5 ?c5 ?k5 ?a6 ?l6 ?c6 ?k6 ?a7 ?l7 ?c7 ?k7 ?a8 ?l8 ?c8 ?k8 ?a9 ?l9 ?c9 ?k9 ?a10 ?l10 ?c10 ?k10 ?a11 ?l11 ?c11 ?k11 ?a12 ?l12 ?c12 ?k12 ?a13 ?l13 ?c13 ?k13 ?a14 ?l14 ?c14 ?k14 ?a15 ?l15 ?c15 ?k15 ?ea0 ?ee0 ?ek0 ?es0 ?et0 ?ea1 ?ee1 ?ek1 ?es1 ?et1 ?z0 ?z1 ?z2 ?z3 ?z4 ?z5 ?z6 ?z7 ?z8 ?z9 ?z10 ?z11 ?q0 ?q1 ?q2
    (case a0 => k_is)
    (case l0 => k_is)
    (case c0 => k_is)
    (case k0 => k_is)
    (case a1 => k_is)
    (case l1 => k_is)
    (case c1 => k_is)
    (case k1 => k_is)
    (case a2 => k_is)
    (case l2 => k_is)
    (case c2 => k_is)
    (case k2 => k_is)
    (case a3 => k_is)
    (case l3 => k_is)
    (case c3 => k_is)
    (case k3 => k_is)
    (case a4 => k_is)
    (case l4 => k_is)
    (case c4 => k_is)
    (case k4 => k_is)
    (case a5 => k_is)
    (case l5 => k_is)
    (case c5 => k_is)
    (case k5 => k_is)
    (case a6 => k_is)
    (case l6 => k_is)
    (case c6 => k_is)
    (case k6 => k_is)
    (case a7 => k_is)
    (case l7 => k_is)
    (case c7 => k_is)
    (case k7 => k_is)
    (case a8 => k_is)
    (case l8 => k_is)
    (case c8 => k_is)
    (case k8 => k_is)
    (case a9 => k_is)
    (case l9 => k_is)
    (case c9 => k_is)
    (case k9 => k_is)
    (case a10 => k_is)
    (case l10 => k_is)
    (case c10 => k_is)
    (case k10 => k_is)
    (case a11 => k_is)
    (case l11 => k_is)
    (case c11 => k_is)
    (case k11 => k_is)
    (case a12 => k_is)
    (case l12 => k_is)
    (case c12 => k_is)
    (case k12 => k_is)
    (case a13 => k_is)
    (case l13 => k_is)
    (case c13 => k_is)
    (case k13 => k_is)
    (case a14 => k_is)
    (case l14 => k_is)
    (case c14 => k_is)
    (case k14 => k_is)
    (case a15 => k_is)
    (case l15 => k_is)
    (case c15 => k_is)
    (case k15 => k_is)
    (case ea0 => k_is)
    (case ee0 => k_exc)
    (case ek0 => k_is)
    (case es0 => k_is)
    (case et0 => k_is)
    (case ea1 => k_is)
    (case ee1 => k_exc)
    (case ek1 => k_is)
    (case es1 => k_is)
    (case et1 => k_is)
    (case z0 => k_is)
    (case z1 => k_is)
    (case z2 => k_is)
    (case z3 => k_is)
    (case z4 => k_is)
    (case z5 => k_is)
    (case z6 => k_is)
    (case z7 => k_is)
    (case z8 => k_is)
    (case z9 => k_is)
    (case z10 => k_is)
    (case z11 => k_is)
    (case q0 => k_is)
    (case q1 => k_is)
    (case q2 => k_is)

