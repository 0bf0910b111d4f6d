import PyProof.Rows.All
import Wide.All
import OpenK.AllK
import Wide.FinOn
import HandS.ForMost
import HandS.ForExc
import HandS.TupAny
import HandS.IsInst
import HandS.Style
import HandS.Conv
import HandS.Deep
import HandS.Sort
import HandS.RevRange
import HandS.HeadHook2
import HandS.ExcOwn
import HandS.Defaults
import HandS.Head2
import HandS.HeadEnd
import HandS.Words
import PySem.Challenge.RW_leadwindows_k19_whole_mirrored
set_option Elab.async false
set_option linter.all false
set_option maxRecDepth 100000
/-! # Ir: a small position-free form of the programs' text, plain values, and a reference evaluator. No heap, no model here. -/
namespace Ir
open PySem

/-! ## values -/
inductive D where
  | non | bl (b : Bool) | int (i : Int) | str (s : Str) | tup (xs : List D) | lst (xs : List D)
  | scr (ns : List Int) | dct (ks vs : List D) | set (xs : List D) | rng (lo hi : Int) | exc (c : Nat) | loc (n : Nat)
  deriving Inhabited

/-- what a mutable thing holds -/
inductive Cell where
  | lst (xs : List D) | dct (ks vs : List D) | ins (c : Nat) (fs : List D) | dead

abbrev Wd := List Cell

inductive Res (α : Type) where
  | ok (a : α) (w : Wd) | exc (c : Nat) (w : Wd) | stk

def Res.bind {α β : Type} (r : Res α) (f : α → Wd → Res β) : Res β := match r with
  | .ok a w => f a w
  | .exc c w => .exc c w
  | .stk => .stk
@[simp] theorem Res.bind_ok {α β : Type} (a : α) (w : Wd) (f : α → Wd → Res β) : (Res.ok a w).bind f = f a w := rfl
@[simp] theorem Res.bind_exc {α β : Type} (c : Nat) (w : Wd) (f : α → Wd → Res β) : (Res.exc c w : Res α).bind f = .exc c w := rfl
@[simp] theorem Res.bind_stk {α β : Type} (f : α → Wd → Res β) : (Res.stk : Res α).bind f = .stk := rfl
/-- an exception is not served -/
def Res.nox {α : Type} (r : Res α) : Res α := match r with
  | .ok a w => .ok a w
  | _ => .stk
def Res.of {α : Type} (o : Option α) (w : Wd) : Res α := match o with
  | some a => .ok a w
  | none => .stk
@[simp] theorem Res.of_some {α : Type} (a : α) (w : Wd) : Res.of (some a) w = .ok a w := rfl
@[simp] theorem Res.of_none {α : Type} (w : Wd) : (Res.of none w : Res α) = .stk := rfl
@[simp] theorem Res.nox_ok {α : Type} (a : α) (w : Wd) : (Res.ok a w).nox = .ok a w := rfl

/-- the longest list that is served -/
def line : Nat := 16777216

/-- a value read through a cell -/
def dr (w : Wd) : D → Option D
  | .loc n => match w[n]? with
    | some (.lst xs) => some (.lst xs)
    | some (.dct ks vs) => some (.dct ks vs)
    | _ => none
  | d => some d

/-! ## equality -/
mutual
/-- the depth of pure data -/
def pd : D → Option Nat
  | .non => some 0
  | .bl _ => some 0
  | .int _ => some 0
  | .str _ => some 0
  | .tup xs => (pds xs).map (· + 1)
  | .lst xs => (pds xs).map (· + 1)
  | _ => none
def pds : List D → Option Nat
  | [] => some 0
  | x :: xs => match pd x, pds xs with
    | some m, some n => some (max m n)
    | _, _ => none
end
mutual
def deq : D → D → Bool
  | .non, .non => true
  | .bl a, .bl b => a == b
  | .bl a, .int j => (if a then 1 else 0) == j
  | .int i, .bl b => i == (if b then 1 else 0)
  | .int i, .int j => i == j
  | .str x, .str y => x == y
  | .lst xs, .lst ys => deqs xs ys
  | .tup xs, .tup ys => deqs xs ys
  | _, _ => false
def deqs : List D → List D → Bool
  | [], [] => true
  | x :: xs, y :: ys => deq x y && deqs xs ys
  | _, _ => false
end
/-- the script is a list of ints -/
def unscr : D → D
  | .scr ns => .lst (ns.map .int)
  | d => d
def eqD (a b : D) : Option Bool := match pd a, pd b with
  | some m, some n => if m ≤ 60 ∧ n ≤ 60 then some (deq a b) else none
  | _, _ => none
/-- x among xs -/
def memD (x : D) (xs : List D) : Option Bool := match pd x, pds xs with
  | some m, some n => if m ≤ 60 ∧ n ≤ 60 then some (xs.any fun z => deq z x) else none
  | _, _ => none
def flatD : D → Bool
  | .non => true
  | .bl _ => true
  | .int _ => true
  | .str _ => true
  | _ => false
/-- the first place of x -/
def idxD (x : D) : List D → Option Nat
  | [] => none
  | y :: ys => if deq y x then some 0 else (idxD x ys).map (· + 1)

/-! ## the small operations -/
inductive BOp where | add | sub | mul | fdiv | mod | pow
inductive COp where | eq | ne | lt | le | gt | ge | isin | notin | is_ | isnot
inductive Ty where | int | str | bool | tuple | list
inductive Prim where | len | min2 | max2 | min1 | max1 | abs | sum | any | all | list | listC | listR (two : Bool) | tuple | isi (t : Ty) | rng1 | sorted | set
inductive Mth where | append | index | count | get | pop | values | setdefault

def cmul (i j : Int) : Bool := (decide (-18446744073709551616 < i) && decide (i < 18446744073709551616)) || (decide (-18446744073709551616 < j) && decide (j < 18446744073709551616))
def ixN (n : Nat) (i : Int) : Option Nat := if 0 ≤ i then (if i < n then some i.toNat else none) else if -(n : Int) ≤ i then some (i + n).toNat else none
def atI (xs : List D) (i : Int) : Option D := (ixN xs.length i).bind fun j => xs[j]?
/-- where a slice's bound lies -/
def sIx (n d : Nat) : Option Int → Nat
  | none => d
  | some v => if v < 0 then (max (v + (n : Int)) 0).toNat else (min v (n : Int)).toNat
def cut (xs : List D) (lo hi : Option Int) : List D := (xs.drop (sIx xs.length 0 lo)).take (sIx xs.length xs.length hi - sIx xs.length 0 lo)

def addD : D → D → Option D
  | .int i, .int j => some (.int (i + j))
  | .tup xs, .tup ys => if xs.length + ys.length ≤ line then some (.tup (xs ++ ys)) else none
  | .lst xs, .lst ys => if xs.length + ys.length ≤ line then some (.lst (xs ++ ys)) else none
  | _, _ => none
def mulD : D → D → Option D
  | .int i, .int j => if cmul i j then some (.int (i * j)) else none
  | .lst xs, .int k => if -9223372036854775808 ≤ k ∧ k < 9223372036854775808 ∧ xs.length * k.toNat ≤ line then some (.lst (List.replicate k.toNat xs).flatten) else none
  | _, _ => none
def bop (o : BOp) (x y : D) : Option D := match o with
  | .add => addD x y
  | .mul => mulD x y
  | .sub => match x, y with
    | .int i, .int j => some (.int (i - j))
    | _, _ => none
  | .fdiv => match x, y with
    | .int i, .int j => if 0 < j ∧ j < 1073741824 then some (.int (i / j)) else none
    | _, _ => none
  | .mod => match x, y with
    | .int i, .int j => if 0 < j then some (.int (i % j)) else none
    | _, _ => none
  | .pow => match x, y with
    | .int i, .int j => if 0 ≤ j ∧ j ≤ 1000000 ∧ i.natAbs < 18446744073709551616 then some (.int (i ^ j.toNat)) else none
    | _, _ => none
/-- a op b: lists may be read through cells -/
def bin (o : BOp) (x y : D) (w : Wd) : Option D := match dr w x, dr w y with
  | some x', some y' => bop o x' y'
  | _, _ => none

def isinD (x y : D) : Option Bool := match y with
  | .lst xs => memD x xs
  | .tup xs => if flatD x && xs.all flatD then some (xs.any fun z => deq z x) else none
  | .rng lo hi => match x with
    | .int i => some (decide (lo ≤ i ∧ i < hi))
    | _ => none
  | _ => none
def isD (x y : D) : Option Bool := match y with
  | .non => match x with
    | .non => some true
    | .bl _ => some false
    | .int _ => some false
    | .str _ => some false
    | .tup _ => some false
    | .lst _ => some false
    | .dct _ _ => some false
    | .exc _ => some false
    | _ => none
  | .bl b => match x with
    | .bl a => some (decide (a = b))
    | _ => none
  | _ => none
def ordD (f : Int → Int → Bool) (x y : D) : Option Bool := match x, y with
  | .int i, .int j => some (f i j)
  | _, _ => none
def copD (o : COp) (x y : D) (w : Wd) : Option Bool := match o with
  | .eq => match dr w x, dr w y with
    | some x', some y' => eqD (unscr x') (unscr y')
    | _, _ => none
  | .ne => match dr w x, dr w y with
    | some x', some y' => (eqD (unscr x') (unscr y')).map (!·)
    | _, _ => none
  | .lt => ordD (fun i j => decide (i < j)) x y
  | .le => ordD (fun i j => decide (i ≤ j)) x y
  | .gt => ordD (fun i j => decide (j < i)) x y
  | .ge => ordD (fun i j => decide (j ≤ i)) x y
  | .isin => match dr w y with
    | some y' => isinD x y'
    | none => none
  | .notin => match dr w y with
    | some (.rng _ _) => none
    | some y' => (isinD x y').map (!·)
    | none => none
  | .is_ => isD x y
  | .isnot => (isD x y).map (!·)

/-- an int or a text: a key -/
def keyB : D → Bool
  | .int _ => true
  | .str _ => true
  | _ => false
def keyE : D → D → Bool
  | .int i, .int j => decide (i = j)
  | .str x, .str y => decide (x = y)
  | _, _ => false
/-- what stands at a key -/
def lookD : List D → List D → D → Option D
  | k :: ks, v :: vs, i => if keyE k i then some v else lookD ks vs i
  | _, _, _ => none
def ixD (x i : D) (w : Wd) : Option D := match dr w x with
  | some (.dct ks vs) => if keyB i then lookD ks vs i else none
  | some (.lst xs) => match i with
    | .int k => atI xs k
    | _ => none
  | some (.tup xs) => match i with
    | .int k => atI xs k
    | _ => none
  | some (.scr ns) => match i with
    | .int k => atI (ns.map .int) k
    | _ => none
  | _ => none
/-- a bound: an int; where none is written: none -/
def bnd (p : Bool) (d : D) : Option (Option Int) := if p then match d with
  | .int i => some (some i)
  | _ => none
  else some none
def slcD (x : D) (l h : Option Int) (w : Wd) : Option D := match dr w x with
  | some (.lst xs) => some (.lst (cut xs l h))
  | some (.tup xs) => some (.tup (cut xs l h))
  | _ => none
def revD (x : D) (w : Wd) : Option D := match dr w x with
  | some (.lst xs) => some (.lst xs.reverse)
  | _ => none

def intsOf : List D → Option (List Int)
  | [] => some []
  | .int i :: xs => (intsOf xs).map (i :: ·)
  | _ :: _ => none
def blsOf : List D → Option (List Bool)
  | [] => some []
  | .bl b :: xs => (blsOf xs).map (b :: ·)
  | _ :: _ => none
def minL : Int → List Int → Int
  | m, [] => m
  | m, x :: xs => minL (if x < m then x else m) xs
def maxL : Int → List Int → Int
  | m, [] => m
  | m, x :: xs => maxL (if m < x then x else m) xs
def isi : Ty → D → Option Bool
  | .int, .int _ => some true
  | .int, .bl _ => some true
  | .bool, .bl _ => some true
  | .str, .str _ => some true
  | .tuple, .tup _ => some true
  | .list, .lst _ => some true
  | _, .non => some false
  | _, .bl _ => some false
  | _, .int _ => some false
  | _, .str _ => some false
  | _, .tup _ => some false
  | _, .lst _ => some false
  | _, _ => none
def rangeL (lo : Int) (step : Int) : Nat → List D
  | 0 => []
  | n + 1 => .int lo :: rangeL (lo + step) step n
/-- range bounds that are served -/
def rgOk (i : Int) : Bool := decide (-4611686018427387904 ≤ i) && decide (i < 4611686018427387904)

def lenD (x : D) (w : Wd) : Option Nat := match dr w x with
  | some (.lst xs) => some xs.length
  | some (.tup xs) => some xs.length
  | some (.scr ns) => some ns.length
  | _ => none
def listD (x : D) (w : Wd) : Option (List D) := match dr w x with
  | some (.lst xs) => some xs
  | some (.tup xs) => some xs
  | some (.scr ns) => some (ns.map .int)
  | _ => none
def prim (p : Prim) (as : List D) (w : Wd) : Res D := match p, as with
  | .len, [x] => .of ((lenD x w).map fun n => .int n) w
  | .min2, [.int i, .int j] => .ok (.int (if j < i then j else i)) w
  | .max2, [.int i, .int j] => .ok (.int (if i < j then j else i)) w
  | .min1, [x] => match dr w x with
    | some (.lst xs) => match intsOf xs with
      | some (m :: ns) => .ok (.int (minL m ns)) w
      | _ => .stk
    | _ => .stk
  | .max1, [x] => match dr w x with
    | some (.lst xs) => match intsOf xs with
      | some (m :: ns) => .ok (.int (maxL m ns)) w
      | _ => .stk
    | _ => .stk
  | .abs, [.int i] => .ok (.int (if i < 0 then -i else i)) w
  | .sum, [x] => match dr w x with
    | some (.lst xs) => .of ((intsOf xs).map fun ns => .int ns.sum) w
    | _ => .stk
  | .any, [x] => match dr w x with
    | some (.lst xs) => .of ((blsOf xs).map fun bs => .bl (bs.any id)) w
    | _ => .stk
  | .all, [x] => match dr w x with
    | some (.lst xs) => .of ((blsOf xs).map fun bs => .bl (bs.all id)) w
    | _ => .stk
  | .list, [x] => .of ((listD x w).map .lst) w
  | .listC, [x] => match listD x w with
    | some xs => .ok (.loc w.length) (w ++ [.lst xs])
    | none => .stk
  | .listR false, [.int j] => if rgOk j && decide (j.toNat ≤ line) then .ok (.lst (rangeL 0 1 j.toNat)) w else .stk
  | .listR true, [.int i, .int j] => if rgOk i && rgOk j && decide ((j - i).toNat ≤ line) then .ok (.lst (rangeL i 1 (j - i).toNat)) w else .stk
  | .tuple, [x] => match dr w x with
    | some (.lst xs) => .ok (.tup xs) w
    | some (.tup xs) => .ok (.tup xs) w
    | _ => .stk
  | .isi t, [x] => .of ((isi t x).map .bl) w
  | .rng1, [.int j] => .ok (.rng 0 j) w
  | _, _ => .stk
/-- the receiver is of the method's kind -/
def recvB (m : Mth) (x : D) (w : Wd) : Bool := match dr w x with
  | some (.lst _) => (match m with
    | .append => true
    | .index => true
    | .count => true
    | .pop => true
    | _ => false)
  | some (.dct _ _) => (match m with
    | .get => true
    | .values => true
    | .setdefault => true
    | _ => false)
  | _ => false
def meth (m : Mth) (x : D) (as : List D) (w : Wd) : Res D := match m, as with
  | .append, [y] => match x with
    | .loc n => match w[n]? with
      | some (.lst xs) => if xs.length < line then .ok .non (w.set n (.lst (xs ++ [y]))) else .stk
      | _ => .stk
    | _ => .stk
  | .index, [y] => match dr w x with
    | some (.lst xs) => match memD y xs with
      | some _ => .of ((idxD y xs).map fun j => .int j) w
      | none => .stk
    | _ => .stk
  | _, _ => .stk

/-! ## the text -/
mutual
inductive Tg where | nm (i : Nat) | tup (ts : Tgs)
inductive Tgs where | nil | cons (t : Tg) (ts : Tgs)
end
mutual
inductive E where
  | var (i : Nat) | gl (x : Str) (d : D) | con (d : D) | tup (es : Es) | lst (es : Es) | cel (es : Es)
  | bin (o : BOp) (a b : E) | neg (a : E) | nt (a : E) | and_ (a : E) (es : Es) | or_ (a : E) (es : Es) | ite (c a b : E)
  | cmp (o : COp) (a b : E) | chain (o p : COp) (a b c : E) | ix (a b : E) | slc (p q : Bool) (a lo hi : E) | rev (a : E)
  | call (f : Nat) (es : Es) | prim (p : Prim) (es : Es) | isi (t : Ty) (a : E) | lr1 (a : E) | lr2 (a b : E) | meth (m : Mth) (a : E) (es : Es)
  | lc (cell : Bool) (t : Tg) (it : It) (c : E) (elt : E)
  | dsp (ks vs : List D)
inductive Es where | nil | cons (e : E) (es : Es)
inductive It where | val (e : E) | rng (es : Es) | enum (e : E) | zip (a b : E)
end
mutual
inductive S where
  | asg (t : Tg) (e : E) | aug (i : Nat) (o : BOp) (e : E) | setix (a i e : E) | ex (e : E) | ret (e : E) | retN
  | ite (c : E) (a b : Ss) | whl (fuel : Nat) (c : E) (b : Ss) | for_ (t : Tg) (it : It) (b : Ss) | rais (c : Nat)
  | pass | brk | cont | fz (i : Nat) | tr (b : Ss) (c : Nat) (i : Nat) (h : Ss)
inductive Ss where | nil | cons (s : S) (ss : Ss)
end

/-! ## the evaluator -/
abbrev Env := List (Option D)
def lk (ρ : Env) (i : Nat) : Option D := match ρ[i]? with
  | some o => o
  | none => none
mutual
def bindT : Tg → D → Env → Option Env
  | .nm i, d, ρ => if i < ρ.length then some (ρ.set i (some d)) else none
  | .tup ts, d, ρ => match d with
    | .tup ds => bindTs ts ds ρ
    | _ => none
def bindTs : Tgs → List D → Env → Option Env
  | .nil, [], ρ => some ρ
  | .cons t ts, d :: ds, ρ => match bindT t d ρ with
    | some ρ' => bindTs ts ds ρ'
    | none => none
  | _, _, _ => none
end
inductive SR where
  | nx (ρ : Env) (w : Wd) | rt (d : D) (w : Wd) | bk (ρ : Env) (w : Wd) | ct (ρ : Env) (w : Wd) | ex (c : Nat) (ρ : Env) (w : Wd) | stk
def Res.sr {α : Type} (r : Res α) (ρ : Env) (f : α → Wd → SR) : SR := match r with
  | .ok a w => f a w
  | .exc c w => .ex c ρ w
  | .stk => .stk
@[simp] theorem Res.sr_ok {α : Type} (a : α) (w : Wd) (ρ : Env) (f : α → Wd → SR) : (Res.ok a w).sr ρ f = f a w := rfl
@[simp] theorem Res.sr_exc {α : Type} (c : Nat) (w : Wd) (ρ : Env) (f : α → Wd → SR) : (Res.exc c w : Res α).sr ρ f = .ex c ρ w := rfl
@[simp] theorem Res.sr_stk {α : Type} (ρ : Env) (f : α → Wd → SR) : (Res.stk : Res α).sr ρ f = .stk := rfl
def SR.seq (r : SR) (f : Env → Wd → SR) : SR := match r with
  | .nx ρ w => f ρ w
  | r => r
@[simp] theorem SR.seq_nx (ρ : Env) (w : Wd) (f : Env → Wd → SR) : (SR.nx ρ w).seq f = f ρ w := rfl
@[simp] theorem SR.seq_rt (d : D) (w : Wd) (f : Env → Wd → SR) : (SR.rt d w).seq f = .rt d w := rfl
@[simp] theorem SR.seq_bk (ρ : Env) (w : Wd) (f : Env → Wd → SR) : (SR.bk ρ w).seq f = .bk ρ w := rfl
@[simp] theorem SR.seq_ct (ρ : Env) (w : Wd) (f : Env → Wd → SR) : (SR.ct ρ w).seq f = .ct ρ w := rfl
@[simp] theorem SR.seq_ex (c : Nat) (ρ : Env) (w : Wd) (f : Env → Wd → SR) : (SR.ex c ρ w).seq f = .ex c ρ w := rfl
@[simp] theorem SR.seq_stk (f : Env → Wd → SR) : SR.stk.seq f = .stk := rfl

def truth : D → Option Bool
  | .bl b => some b
  | _ => none
/-- a turn's end, in a loop -/
def SR.turn (r : SR) (f : Env → Wd → SR) : SR := match r with
  | .nx ρ w => f ρ w
  | .ct ρ w => f ρ w
  | .bk ρ w => .nx ρ w
  | r => r
@[simp] theorem SR.turn_nx (ρ : Env) (w : Wd) (f : Env → Wd → SR) : (SR.nx ρ w).turn f = f ρ w := rfl
@[simp] theorem SR.turn_ct (ρ : Env) (w : Wd) (f : Env → Wd → SR) : (SR.ct ρ w).turn f = f ρ w := rfl
@[simp] theorem SR.turn_bk (ρ : Env) (w : Wd) (f : Env → Wd → SR) : (SR.bk ρ w).turn f = .nx ρ w := rfl
@[simp] theorem SR.turn_rt (d : D) (w : Wd) (f : Env → Wd → SR) : (SR.rt d w).turn f = .rt d w := rfl
@[simp] theorem SR.turn_ex (c : Nat) (ρ : Env) (w : Wd) (f : Env → Wd → SR) : (SR.ex c ρ w).turn f = .ex c ρ w := rfl
@[simp] theorem SR.turn_stk (f : Env → Wd → SR) : SR.stk.turn f = .stk := rfl
def forL (t : Tg) (b : Env → Wd → SR) : List D → Env → Wd → SR
  | [], ρ, w => .nx ρ w
  | d :: ds, ρ, w => match bindT t d ρ with
    | some ρ' => (b ρ' w).turn fun ρ w => forL t b ds ρ w
    | none => .stk
def whlL (c : Env → Wd → Res D) (b : Env → Wd → SR) : Nat → Env → Wd → SR
  | 0, _, _ => .stk
  | n + 1, ρ, w => (c ρ w).sr ρ fun d w => match truth d with
    | some true => (b ρ w).turn fun ρ w => whlL c b n ρ w
    | some false => .nx ρ w
    | none => .stk
/-- the turns of a comprehension -/
def lcL (t : Tg) (ρ : Env) (c : Env → Wd → Res D) (f : Env → Wd → Res D) : List D → List D → Wd → Res (List D)
  | [], acc, w => .ok acc.reverse w
  | d :: ds, acc, w => match bindT t d ρ with
    | some ρ' => (c ρ' w).bind fun b w => match truth b with
      | some true => (f ρ' w).bind fun y w => if acc.length < line then lcL t ρ c f ds (y :: acc) w else .stk
      | some false => lcL t ρ c f ds acc w
      | none => .stk
    | none => .stk
def zipD : List D → List D → List D
  | x :: xs, y :: ys => .tup [x, y] :: zipD xs ys
  | _, _ => []
def enumD : Nat → List D → List D
  | _, [] => []
  | n, x :: xs => .tup [.int n, x] :: enumD (n + 1) xs
/-- the items of what is walked, as it stands -/
def itemsD : D → Option (List D)
  | .lst xs => some xs
  | .tup xs => some xs
  | .scr ns => some (ns.map .int)
  | _ => none
/-- the items of a list that is walked by enumerate or zip -/
def itemsL : D → Option (List D)
  | .lst xs => some xs
  | .scr ns => some (ns.map .int)
  | _ => none
def zipDD (x y : D) : Option (List D) := match itemsL x with
  | some xs => match itemsL y with
    | some ys => some (zipD xs ys)
    | none => none
  | none => none
def rngItems : List D → Option (List D)
  | [.int j] => if rgOk j then some (rangeL 0 1 j.toNat) else none
  | [.int i, .int j] => if rgOk i && rgOk j then some (rangeL i 1 (j - i).toNat) else none
  | [.int i, .int j, .int k] => if rgOk i && rgOk j && decide (0 < k) && decide (k < 1073741824) && decide ((j - i).toNat < 1073741824) then some (rangeL i k (((j - i) + (k - 1)) / k).toNat) else none
  | _ => none

mutual
def evE (F : Nat → List D → Wd → Res D) : E → Env → Wd → Res D
  | .var i, ρ, w => .of (lk ρ i) w
  | .gl _ d, _, w => .ok d w
  | .con d, _, w => .ok d w
  | .tup es, ρ, w => (evEs F es ρ w).bind fun ds w => .ok (.tup ds) w
  | .lst es, ρ, w => (evEs F es ρ w).bind fun ds w => .ok (.lst ds) w
  | .cel es, ρ, w => (evEs F es ρ w).bind fun ds w => .ok (.loc w.length) (w ++ [.lst ds])
  | .bin o a b, ρ, w => (evE F a ρ w).bind fun x w => (evE F b ρ w).bind fun y w => .of (bin o x y w) w
  | .neg a, ρ, w => (evE F a ρ w).bind fun x w => match x with
    | .int i => .ok (.int (-i)) w
    | _ => .stk
  | .nt a, ρ, w => (evE F a ρ w).bind fun x w => .of ((truth x).map fun b => .bl (!b)) w
  | .and_ a es, ρ, w => (evE F a ρ w).bind fun x w => match truth x with
    | some true => evAnd F es ρ w
    | some false => .ok (.bl false) w
    | none => .stk
  | .or_ a es, ρ, w => (evE F a ρ w).bind fun x w => match truth x with
    | some true => .ok (.bl true) w
    | some false => evOr F es ρ w
    | none => .stk
  | .ite c a b, ρ, w => (evE F c ρ w).bind fun x w => match truth x with
    | some true => evE F a ρ w
    | some false => evE F b ρ w
    | none => .stk
  | .cmp o a b, ρ, w => (evE F a ρ w).bind fun x w => (evE F b ρ w).bind fun y w => .of ((copD o x y w).map .bl) w
  | .chain o p a b c, ρ, w => (evE F a ρ w).bind fun x w => (evE F b ρ w).bind fun y w => match copD o x y w with
    | some true => (evE F c ρ w).bind fun z w => .of ((copD p y z w).map .bl) w
    | some false => .ok (.bl false) w
    | none => .stk
  | .ix a b, ρ, w => (evE F a ρ w).bind fun x w => (evE F b ρ w).bind fun i w => .of (ixD x i w) w
  | .slc p q a lo hi, ρ, w => (evE F a ρ w).bind fun x w => (evE F lo ρ w).bind fun l w => match bnd p l with
    | some l' => (evE F hi ρ w).bind fun h w => match bnd q h with
      | some h' => .of (slcD x l' h' w) w
      | none => .stk
    | none => .stk
  | .rev a, ρ, w => (evE F a ρ w).bind fun x w => .of (revD x w) w
  | .call f es, ρ, w => (evEs F es ρ w).bind fun ds w => F f ds w
  | .prim p es, ρ, w => (evEs F es ρ w).bind fun ds w => prim p ds w
  | .isi t a, ρ, w => (evE F a ρ w).bind fun d w => Ir.prim (.isi t) [d] w
  | .lr1 a, ρ, w => (evE F a ρ w).bind fun d w => Ir.prim (.listR false) [d] w
  | .lr2 a b, ρ, w => (evE F a ρ w).bind fun d w => (evE F b ρ w).bind fun d' w => Ir.prim (.listR true) [d, d'] w
  | .meth m a es, ρ, w => (evE F a ρ w).bind fun x w => if recvB m x w then (evEs F es ρ w).bind fun ds w => meth m x ds w else .stk
  | .lc cell t it c elt, ρ, w => (evIt F it ρ w).bind fun ds w => ((lcL t ρ (evE F c) (evE F elt) ds [] w).nox).bind fun ys w =>
    if cell then .ok (.loc w.length) (w ++ [.lst ys]) else .ok (.lst ys) w
  | .dsp ks vs, _, w => .ok (.dct ks vs) w
def evEs (F : Nat → List D → Wd → Res D) : Es → Env → Wd → Res (List D)
  | .nil, _, w => .ok [] w
  | .cons e es, ρ, w => (evE F e ρ w).bind fun d w => (evEs F es ρ w).bind fun ds w => .ok (d :: ds) w
def evAnd (F : Nat → List D → Wd → Res D) : Es → Env → Wd → Res D
  | .nil, _, w => .ok (.bl true) w
  | .cons e es, ρ, w => (evE F e ρ w).bind fun x w => match truth x with
    | some true => evAnd F es ρ w
    | some false => .ok (.bl false) w
    | none => .stk
def evOr (F : Nat → List D → Wd → Res D) : Es → Env → Wd → Res D
  | .nil, _, w => .ok (.bl false) w
  | .cons e es, ρ, w => (evE F e ρ w).bind fun x w => match truth x with
    | some true => .ok (.bl true) w
    | some false => evOr F es ρ w
    | none => .stk
def evIt (F : Nat → List D → Wd → Res D) : It → Env → Wd → Res (List D)
  | .val e, ρ, w => (evE F e ρ w).bind fun d w => .of (itemsD d) w
  | .rng es, ρ, w => (evEs F es ρ w).bind fun ds w => .of (rngItems ds) w
  | .enum e, ρ, w => (evE F e ρ w).bind fun d w => .of ((itemsL d).map (enumD 0)) w
  | .zip a b, ρ, w => (evE F a ρ w).bind fun x w => (evE F b ρ w).bind fun y w => .of (zipDD x y) w
end

def augD (o : BOp) (x y : D) (w : Wd) : Res D := match x with
  | .loc n => match o, w[n]?, dr w y with
    | .add, some (.lst xs), some (.lst ys) => if xs.length + ys.length ≤ line then .ok x (w.set n (.lst (xs ++ ys))) else .stk
    | _, _, _ => .stk
  | .int i => match y with
    | .int j => match o with
      | .add => .ok (.int (i + j)) w
      | .sub => .ok (.int (i - j)) w
      | _ => .stk
    | _ => .stk
  | _ => .stk
def setD (x i y : D) (w : Wd) : Option Wd := match x with
  | .loc n => match w[n]?, i with
    | some (.lst xs), .int k => (ixN xs.length k).map fun j => w.set n (.lst (xs.set j y))
    | _, _ => none
  | _ => none
/-- the cell of slot i becomes a value -/
def fzD (i : Nat) (ρ : Env) (w : Wd) : SR := match lk ρ i with
  | some (.loc n) => match w[n]? with
    | some (.lst xs) => .nx (ρ.set i (some (.lst xs))) (w.set n .dead)
    | some (.dct ks vs) => .nx (ρ.set i (some (.dct ks vs))) (w.set n .dead)
    | _ => .stk
  | _ => .stk

mutual
def evS (F : Nat → List D → Wd → Res D) (sub : Nat → Nat → Bool) : S → Env → Wd → SR
  | .asg t e, ρ, w => (evE F e ρ w).sr ρ fun d w => match bindT t d ρ with
    | some ρ' => .nx ρ' w
    | none => .stk
  | .aug i o e, ρ, w => match lk ρ i with
    | some x => (evE F e ρ w).sr ρ fun y w => (augD o x y w).sr ρ fun z w => .nx (ρ.set i (some z)) w
    | none => .stk
  | .setix a i e, ρ, w => (evE F e ρ w).sr ρ fun y w => (evE F a ρ w).sr ρ fun x w => (evE F i ρ w).sr ρ fun k w => match setD x k y w with
    | some w' => .nx ρ w'
    | none => .stk
  | .ex e, ρ, w => (evE F e ρ w).sr ρ fun _ w => .nx ρ w
  | .ret e, ρ, w => (evE F e ρ w).sr ρ fun d w => .rt d w
  | .retN, _, w => .rt .non w
  | .ite c a b, ρ, w => (evE F c ρ w).sr ρ fun x w => match truth x with
    | some true => evSs F sub a ρ w
    | some false => evSs F sub b ρ w
    | none => .stk
  | .whl n c b, ρ, w => whlL (evE F c) (evSs F sub b) n ρ w
  | .for_ t it b, ρ, w => (evIt F it ρ w).sr ρ fun ds w => forL t (evSs F sub b) ds ρ w
  | .rais c, ρ, w => .ex c ρ w
  | .pass, ρ, w => .nx ρ w
  | .brk, ρ, w => .bk ρ w
  | .cont, ρ, w => .ct ρ w
  | .fz i, ρ, w => fzD i ρ w
  | .tr b c i h, ρ, w => match evSs F sub b ρ w with
    | .ex c' ρ' w' => if sub c' c then
        match evSs F sub h (ρ'.set i (some (.exc c'))) w' with
        | .nx ρ'' w'' => .nx (ρ''.set i none) w''
        | .rt d w'' => .rt d w''
        | _ => .stk
      else .ex c' ρ' w'
    | r => r
def evSs (F : Nat → List D → Wd → Res D) (sub : Nat → Nat → Bool) : Ss → Env → Wd → SR
  | .nil, ρ, w => .nx ρ w
  | .cons s ss, ρ, w => (evS F sub s ρ w).seq fun ρ w => evSs F sub ss ρ w
end

/-- a def: its parameters' number, its slots' number, its body -/
structure FDef where
  np : Nat
  ns : Nat
  body : Ss
def SR.res (r : SR) : Res D := match r with
  | .nx _ w => .ok .non w
  | .rt d w => .ok d w
  | .ex c _ w => .exc c w
  | _ => .stk
@[simp] theorem SR.res_nx (ρ : Env) (w : Wd) : (SR.nx ρ w).res = .ok .non w := rfl
@[simp] theorem SR.res_rt (d : D) (w : Wd) : (SR.rt d w).res = .ok d w := rfl
@[simp] theorem SR.res_ex (c : Nat) (ρ : Env) (w : Wd) : (SR.ex c ρ w).res = .exc c w := rfl
def start (n : Nat) (as : List D) : Env := as.map some ++ List.replicate (n - as.length) none
/-- f(as) at k levels of calls -/
def run (P : List FDef) (sub : Nat → Nat → Bool) : Nat → Nat → List D → Wd → Res D
  | 0, _, _, _ => .stk
  | k + 1, f, as, w => match P[f]? with
    | some fd => if as.length = fd.np then (evSs (run P sub k) sub fd.body (start fd.ns as) w).res else .stk
    | none => .stk
end Ir
/-! # Ir over the hand layer: what a value stands for, situations, steps -/
namespace Ir
open PySem PySem.Spec PyProof.Rows L2

/-! ## what a value stands for -/
def keyD : Key → D
  | .inl i => .int i
  | .inr x => .str x
mutual
inductive Den (K : PySem.W.Frag) (I : Hp) (L : List Addr) : V → D → Prop
  | non : Den K I L .non .non
  | bl (b : Bool) : Den K I L (.bl b) (.bl b)
  | int (i : Int) : Den K I L (.int i) (.int i)
  | str (x : Str) (h : PyData.strOk x = true) : Den K I L (.str x) (.str x)
  | tup {a : Addr} {vs : List V} {ds : List D} : SqT K I a vs → DenA K I L vs ds → Den K I L (.ref a) (.tup ds)
  | lst {a : Addr} {vs : List V} {ds : List D} : I a = some (.lst vs) → DenA K I L vs ds → Den K I L (.ref a) (.lst ds)
  | scr {a : Addr} {ns : List Int} : SqL K I a (ns.map V.int) → Den K I L (.ref a) (.scr ns)
  | rng {a : Addr} {lo hi : Int} : I a = some (.rng lo hi) → Den K I L (.ref a) (.rng lo hi)
  | loc {a : Addr} {n : Nat} : L[n]? = some a → Den K I L (.ref a) (.loc n)
  | dct {a : Addr} {kvs : List (Key × V)} {ks vs : List D} : I a = some (.dK kvs) → ks = kvs.map (fun kv => keyD kv.1) → DenA K I L (kvs.map (·.2)) vs → Den K I L (.ref a) (.dct ks vs)
inductive DenA (K : PySem.W.Frag) (I : Hp) (L : List Addr) : List V → List D → Prop
  | nil : DenA K I L [] []
  | cons {v : V} {vs : List V} {d : D} {ds : List D} : Den K I L v d → DenA K I L vs ds → DenA K I L (v :: vs) (d :: ds)
end
theorem Same_seqT {K : PySem.W.Frag} {H H' : Hp} {a : Addr} {xs : List V} (e : Same H H') (h : SqT K H a xs) : SqT K H' a xs := by
  rcases h with (h | ⟨o, h⟩) | h
  · exact .inl (.inl (e _ _ h))
  · exact .inl (.inr ⟨o, e _ _ h⟩)
  · exact .inr h
section
variable {K : PySem.W.Frag} {I I' : Hp} {L L' : List Addr}
mutual
theorem Den.mono (hI : Same I I') (hL : ∀ (n : Nat) a, L[n]? = some a → L'[n]? = some a) : ∀ {v : V} {d : D}, Den K I L v d → Den K I' L' v d
  | _, _, .non => .non
  | _, _, .bl b => .bl b
  | _, _, .int i => .int i
  | _, _, .str x h => .str x h
  | _, _, .tup h hs => .tup (Same_seqT hI h) (DenA.mono hI hL hs)
  | _, _, .lst h hs => .lst (hI _ _ h) (DenA.mono hI hL hs)
  | _, _, .scr h => .scr (hI.seq h)
  | _, _, .rng h => .rng (hI _ _ h)
  | _, _, .loc h => .loc (hL _ _ h)
  | _, _, .dct h hk hs => .dct (hI _ _ h) hk (DenA.mono hI hL hs)
theorem DenA.mono (hI : Same I I') (hL : ∀ (n : Nat) a, L[n]? = some a → L'[n]? = some a) : ∀ {vs : List V} {ds : List D}, DenA K I L vs ds → DenA K I' L' vs ds
  | _, _, .nil => .nil
  | _, _, .cons h hs => .cons (Den.mono hI hL h) (DenA.mono hI hL hs)
end
theorem DenA.length : ∀ {vs : List V} {ds : List D}, DenA K I L vs ds → vs.length = ds.length
  | _, _, .nil => rfl
  | _, _, .cons _ h => by simp [DenA.length h]
theorem DenA.get : ∀ {vs : List V} {ds : List D} {i : Nat} {d : D}, DenA K I L vs ds → ds[i]? = some d → ∃ v, vs[i]? = some v ∧ Den K I L v d
  | _, _, _, _, .nil, e => by simp at e
  | _, _, 0, _, .cons h _, e => by simp at e; subst e; exact ⟨_, rfl, h⟩
  | _, _, i + 1, _, .cons _ h, e => by
    obtain ⟨v, h1, h2⟩ := DenA.get (i := i) h (by simpa using e)
    exact ⟨v, by simpa using h1, h2⟩
theorem DenA.getV : ∀ {vs : List V} {ds : List D} {i : Nat} {v : V}, DenA K I L vs ds → vs[i]? = some v → ∃ d, ds[i]? = some d ∧ Den K I L v d
  | _, _, _, _, .nil, e => by simp at e
  | _, _, 0, _, .cons h _, e => by simp at e; subst e; exact ⟨_, rfl, h⟩
  | _, _, i + 1, _, .cons _ h, e => by
    obtain ⟨d, h1, h2⟩ := DenA.getV (i := i) h (by simpa using e)
    exact ⟨d, by simpa using h1, h2⟩
theorem DenA.append : ∀ {vs us : List V} {ds es : List D}, DenA K I L vs ds → DenA K I L us es → DenA K I L (vs ++ us) (ds ++ es)
  | _, _, _, _, .nil, k => k
  | _, _, _, _, .cons h hs, k => .cons h (DenA.append hs k)
theorem DenA.take : ∀ {vs : List V} {ds : List D} (n : Nat), DenA K I L vs ds → DenA K I L (vs.take n) (ds.take n)
  | _, _, 0, _ => .nil
  | _, _, _ + 1, .nil => .nil
  | _, _, n + 1, .cons h hs => .cons h (DenA.take n hs)
theorem DenA.drop : ∀ {vs : List V} {ds : List D} (n : Nat), DenA K I L vs ds → DenA K I L (vs.drop n) (ds.drop n)
  | _, _, 0, h => h
  | _, _, _ + 1, .nil => .nil
  | _, _, n + 1, .cons _ hs => DenA.drop n hs
theorem DenA.reverse {vs : List V} {ds : List D} (h : DenA K I L vs ds) : DenA K I L vs.reverse ds.reverse := by
  have go : ∀ {vs : List V} {ds : List D}, DenA K I L vs ds → DenA K I L vs.reverse ds.reverse := by
    intro vs
    induction vs with
    | nil => intro ds h; cases h; exact .nil
    | cons v vs ih =>
      intro ds h
      cases h with
      | cons h1 h2 =>
        rw [List.reverse_cons, List.reverse_cons]
        exact (ih h2).append (.cons h1 .nil)
  exact go h
theorem DenA.set : ∀ {vs : List V} {ds : List D} {v : V} {d : D} (i : Nat), DenA K I L vs ds → Den K I L v d → DenA K I L (vs.set i v) (ds.set i d)
  | _, _, _, _, _, .nil, _ => .nil
  | _, _, _, _, 0, .cons _ hs, k => .cons k hs
  | _, _, _, _, i + 1, .cons h hs, k => .cons h (DenA.set i hs k)
theorem DenA.rep {vs : List V} {ds : List D} (h : DenA K I L vs ds) : ∀ k : Nat, DenA K I L (List.replicate k vs).flatten (List.replicate k ds).flatten
  | 0 => .nil
  | k + 1 => by
    rw [List.replicate_succ, List.replicate_succ, List.flatten_cons, List.flatten_cons]
    exact h.append (DenA.rep h k)
theorem DenA.ints : ∀ {vs : List V} {ds : List D} {ns : List Int}, DenA K I L vs ds → intsOf ds = some ns → vs = ns.map V.int
  | _, _, _, .nil, e => by simp [intsOf] at e; subst e; rfl
  | _, _, ns, .cons (d := d) h hs, e => by
    cases h with
    | int i =>
      simp only [intsOf] at e
      cases q : intsOf _ with
      | none => rw [q] at e; simp at e
      | some ms =>
        rw [q] at e
        simp at e
        subst e
        rw [DenA.ints hs q]
        rfl
    | _ => simp [intsOf] at e
theorem DenA.bls : ∀ {vs : List V} {ds : List D} {ns : List Bool}, DenA K I L vs ds → blsOf ds = some ns → vs = ns.map V.bl
  | _, _, _, .nil, e => by simp [blsOf] at e; subst e; rfl
  | _, _, ns, .cons (d := d) h hs, e => by
    cases h with
    | bl i =>
      simp only [blsOf] at e
      cases q : blsOf _ with
      | none => rw [q] at e; simp at e
      | some ms =>
        rw [q] at e
        simp at e
        subst e
        rw [DenA.bls hs q]
        rfl
    | _ => simp [blsOf] at e
theorem DenA.ofInts : ∀ ns : List Int, DenA K I L (ns.map V.int) (ns.map D.int)
  | [] => .nil
  | n :: ns => .cons (.int n) (DenA.ofInts ns)
end

/-! ## situations -/
/-- the abstract heap, its part that never changes, the cells' addresses, the cells -/
structure Sit where
  H : Hp
  I : Hp
  L : List Addr
  w : Wd
inductive CellR (K : PySem.W.Frag) (S : Sit) (a : Addr) : Cell → Prop
  | lst {vs : List V} {xs : List D} : S.H a = some (.lst vs) → DenA K S.I S.L vs xs → CellR K S a (.lst xs)
def Own (S : Sit) (a : Addr) : Prop := ∃ (n : Nat) (c : Cell), S.w[n]? = some c ∧ c ≠ .dead ∧ S.L[n]? = some a
structure OkS (K : PySem.W.Frag) (S : Sit) : Prop where
  sub : Same S.I S.H
  len : S.L.length = S.w.length
  cell : ∀ (n : Nat) (c : Cell), S.w[n]? = some c → c ≠ .dead → ∃ a, S.L[n]? = some a ∧ S.I a = none ∧ CellR K S a c
  inj : ∀ (n m : Nat) (a : Addr) (c c' : Cell), S.w[n]? = some c → c ≠ .dead → S.w[m]? = some c' → c' ≠ .dead → S.L[n]? = some a → S.L[m]? = some a → n = m
structure Step (S S' : Sit) : Prop where
  I : Same S.I S'.I
  L : ∀ (n : Nat) a, S.L[n]? = some a → S'.L[n]? = some a
  fr : ∀ a o, S.H a = some o → ¬ Own S a → S'.H a = some o
  nI : ∀ a, S'.I a ≠ none → S.I a = none → S.H a = none ∨ Own S a
  nO : ∀ a, Own S' a → Own S a ∨ S.H a = none
theorem Step.refl (S : Sit) : Step S S := ⟨Same.refl _, fun _ _ h => h, fun _ _ h _ => h, fun a h h' => absurd h' h, fun _ h => .inl h⟩
theorem Step.back {S S' : Sit} (p : Step S S') {a : Addr} (h : S'.H a = none) : S.H a = none ∨ Own S a := by
  cases q : S.H a with
  | none => exact .inl rfl
  | some o =>
    by_cases ho : Own S a
    · exact .inr ho
    · rw [p.fr a o q ho] at h; cases h
theorem Step.trans {S S' S'' : Sit} (p : Step S S') (q : Step S' S'') : Step S S'' where
  I := p.I.trans q.I
  L := fun n a h => q.L n a (p.L n a h)
  fr := fun a o h ho => q.fr a o (p.fr a o h ho) fun z => (p.nO a z).elim ho fun e => by rw [h] at e; cases e
  nI := fun a h1 h2 => by
    by_cases h : S'.I a = none
    · rcases q.nI a h1 h with z | z
      · exact p.back z
      · exact (p.nO a z).symm
    · exact p.nI a h h2
  nO := fun a h => by
    rcases q.nO a h with z | z
    · exact p.nO a z
    · exact (p.back z).symm
theorem Den.step {K : PySem.W.Frag} {S S' : Sit} {v : V} {d : D} (h : Den K S.I S.L v d) (p : Step S S') : Den K S'.I S'.L v d := h.mono p.I p.L
theorem DenA.step {K : PySem.W.Frag} {S S' : Sit} {v : List V} {d : List D} (h : DenA K S.I S.L v d) (p : Step S S') : DenA K S'.I S'.L v d := h.mono p.I p.L
section
variable {K : PySem.W.Frag} {S : Sit}
theorem OkS.freeI (ok : OkS K S) {a : Addr} (h : S.H a = none) : S.I a = none := ok.sub.free h
theorem OkS.own_some (ok : OkS K S) {a : Addr} (h : Own S a) : ∃ o, S.H a = some o := by
  obtain ⟨n, c, hc, hd, hl⟩ := h
  obtain ⟨b, hb, _, r⟩ := ok.cell n c hc hd
  rw [hl] at hb; cases hb
  cases r with
  | lst e _ => exact ⟨_, e⟩

/-- a new object, that never changes -/
def Sit.new (S : Sit) (p : Addr) (o : HO) : Sit := { S with H := upd S.H p o, I := upd S.I p o }
theorem same_upd' {H : Hp} {p : Addr} {o : HO} (h : H p = none) : Same H (upd H p o) := fun b x e => by
  rw [upd_ne (ne_of_none e h)]
  exact e
theorem step_new (ok : OkS K S) {p : Addr} {o : HO} (h : S.H p = none) : Step S (S.new p o) where
  I := same_upd' (ok.freeI h)
  L := fun _ _ h => h
  fr := fun a x e _ => same_upd' h a x e
  nI := fun a h1 h2 => by
    by_cases e : a = p
    · subst e; exact .inl h
    · have : (upd S.I p o) a ≠ none := h1
      rw [upd_ne e] at this
      exact absurd h2 this
  nO := fun a h => .inl h
theorem ok_new (ok : OkS K S) {p : Addr} {o : HO} (h : S.H p = none) : OkS K (S.new p o) where
  sub := fun b x e => by
    by_cases eb : b = p
    · subst eb
      have e' : upd S.I b o b = some x := e
      rw [upd_same] at e'
      show upd S.H b o b = some x
      rw [upd_same]; exact e'
    · have e' : upd S.I p o b = some x := e
      rw [upd_ne eb] at e'
      show upd S.H p o b = some x
      rw [upd_ne eb]; exact ok.sub b x e'
  len := ok.len
  cell := fun n c hc hd => by
    obtain ⟨a, h1, h2, r⟩ := ok.cell n c hc hd
    have ne : a ≠ p := by
      rintro rfl
      obtain ⟨o', e⟩ := ok.own_some ⟨n, c, hc, hd, h1⟩
      rw [h] at e; cases e
    refine ⟨a, h1, ?_, ?_⟩
    · show upd S.I p o a = none
      rw [upd_ne ne]; exact h2
    · cases r with
      | lst e hs => exact .lst (by show upd S.H p o a = _; rw [upd_ne ne]; exact e) (hs.step (step_new ok h))
  inj := ok.inj
/-- a new cell -/
def Sit.cell (S : Sit) (p : Addr) (o : HO) (c : Cell) : Sit := { H := upd S.H p o, I := S.I, L := S.L ++ [p], w := S.w ++ [c] }
theorem get_snoc {α : Type} {l : List α} {x y : α} {n : Nat} (h : (l ++ [x])[n]? = some y) : l[n]? = some y ∨ (n = l.length ∧ y = x) := by
  by_cases hn : n < l.length
  · rw [List.getElem?_append_left hn] at h; exact .inl h
  · rw [List.getElem?_append_right (by omega)] at h
    have e : n - l.length = 0 := by
      have := (List.getElem?_eq_some_iff.mp h).1
      simp at this; omega
    rw [e] at h
    exact .inr ⟨by omega, by simpa using h.symm⟩
theorem get_old {α : Type} {l : List α} {x y : α} {n : Nat} (h : l[n]? = some y) : (l ++ [x])[n]? = some y := by
  rw [List.getElem?_append_left (List.getElem?_eq_some_iff.mp h).1]; exact h
theorem own_cell (ok : OkS K S) {p : Addr} {o : HO} {c : Cell} {a : Addr} (h : Own (S.cell p o c) a) : Own S a ∨ a = p := by
  obtain ⟨n, c', hc, hd, hl⟩ := h
  rcases get_snoc hc with hc | ⟨hn, _⟩
  · have hn := (List.getElem?_eq_some_iff.mp hc).1
    have hl' : S.L[n]? = some a := by
      have : (S.L ++ [p])[n]? = some a := hl
      rwa [List.getElem?_append_left (by rw [ok.len]; exact hn)] at this
    exact .inl ⟨n, c', hc, hd, hl'⟩
  · have : (S.L ++ [p])[n]? = some a := hl
    rw [hn, ← ok.len, List.getElem?_append_right (Nat.le_refl _)] at this
    simp at this
    exact .inr this.symm
theorem step_cell (ok : OkS K S) {p : Addr} {o : HO} {c : Cell} (h : S.H p = none) : Step S (S.cell p o c) where
  I := Same.refl _
  L := fun _ _ h => get_old h
  fr := fun a x e _ => same_upd' h a x e
  nI := fun a h1 h2 => absurd h2 h1
  nO := fun a h' => (own_cell ok h').imp id fun e => by rw [e]; exact h
theorem ok_cell (ok : OkS K S) {p : Addr} {vs : List V} {xs : List D} (h : S.H p = none) (hv : DenA K S.I S.L vs xs) : OkS K (S.cell p (.lst vs) (.lst xs)) where
  sub := fun b x e => by
    have : b ≠ p := ne_of_none (ok.sub b x e) h
    show upd S.H p _ b = some x
    rw [upd_ne this]; exact ok.sub b x e
  len := by show (S.L ++ [p]).length = (S.w ++ [_]).length; simp [ok.len]
  cell := fun n c hc0 hd => by
    rcases get_snoc hc0 with hc | ⟨hn, rfl⟩
    · obtain ⟨a, h1, h2, r⟩ := ok.cell n c hc hd
      have ne : a ≠ p := by
        intro ea
        rw [ea] at h1
        obtain ⟨o', e⟩ := ok.own_some ⟨n, c, hc, hd, h1⟩
        rw [h] at e; cases e
      refine ⟨a, get_old h1, h2, ?_⟩
      cases r with
      | lst e hs => exact .lst (by show upd S.H p _ a = _; rw [upd_ne ne]; exact e) (hs.step (step_cell ok h))
    · refine ⟨p, ?_, ok.freeI h, .lst (by show upd S.H p _ p = _; exact upd_same) (hv.step (step_cell ok h))⟩
      show (S.L ++ [p])[n]? = some p
      rw [hn, ← ok.len, List.getElem?_append_right (Nat.le_refl _)]; simp
  inj := fun n m a c c' h1 d1 h2 d2 l1 l2 => by
    have key : ∀ (n : Nat) (c : Cell), (S.w ++ [Cell.lst xs])[n]? = some c → c ≠ .dead → (S.L ++ [p])[n]? = some a → (S.w[n]? = some c ∧ S.L[n]? = some a ∧ a ≠ p) ∨ (n = S.w.length ∧ a = p) := by
      intro n c hc hd hl
      rcases get_snoc hc with hc | ⟨hn, _⟩
      · have hl' : S.L[n]? = some a := by
          rwa [List.getElem?_append_left (by rw [ok.len]; exact (List.getElem?_eq_some_iff.mp hc).1)] at hl
        refine .inl ⟨hc, hl', ?_⟩
        rintro rfl
        obtain ⟨o', e⟩ := ok.own_some ⟨n, c, hc, hd, hl'⟩
        rw [h] at e; cases e
      · rw [hn, ← ok.len, List.getElem?_append_right (Nat.le_refl _)] at hl
        simp at hl
        exact .inr ⟨hn, hl.symm⟩
    rcases key n c h1 d1 l1 with ⟨a1, a2, a3⟩ | ⟨a1, a2⟩
    · rcases key m c' h2 d2 l2 with ⟨b1, b2, b3⟩ | ⟨b1, b2⟩
      · exact ok.inj n m a c c' a1 d1 b1 d2 a2 b2
      · exact absurd b2 a3
    · rcases key m c' h2 d2 l2 with ⟨b1, b2, b3⟩ | ⟨b1, b2⟩
      · exact absurd a2 b3
      · rw [a1, b1]
/-- a cell changes -/
def Sit.put (S : Sit) (n : Nat) (a : Addr) (o : HO) (c : Cell) : Sit := { H := upd S.H a o, I := S.I, L := S.L, w := S.w.set n c }
theorem own_put {n : Nat} {a b : Addr} {o : HO} {c c0 : Cell} (h0 : S.w[n]? = some c0) (hd0 : c0 ≠ .dead) (hl : S.L[n]? = some a) (h : Own (S.put n a o c) b) : Own S b := by
  obtain ⟨m, c', hc, hd, hm⟩ := h
  have hc : (S.w.set n c)[m]? = some c' := hc
  by_cases e : n = m
  · subst e
    have hm : S.L[n]? = some b := hm
    exact ⟨n, c0, h0, hd0, hm⟩
  · rw [List.getElem?_set_ne e] at hc
    exact ⟨m, c', hc, hd, hm⟩
theorem step_put {n : Nat} {a : Addr} {o : HO} {c c0 : Cell} (h0 : S.w[n]? = some c0) (hd0 : c0 ≠ .dead) (hl : S.L[n]? = some a) : Step S (S.put n a o c) where
  I := Same.refl _
  L := fun _ _ h => h
  fr := fun b x e hb => by
    show upd S.H a o b = some x
    rw [upd_ne]; exact e
    rintro rfl
    exact hb ⟨n, c0, h0, hd0, hl⟩
  nI := fun b h1 h2 => absurd h2 h1
  nO := fun b h => .inl (own_put h0 hd0 hl h)
theorem ok_put (ok : OkS K S) {n : Nat} {a : Addr} {c0 : Cell} {vs : List V} {xs : List D} (h0 : S.w[n]? = some c0) (hd0 : c0 ≠ .dead) (hl : S.L[n]? = some a) (hv : DenA K S.I S.L vs xs) : OkS K (S.put n a (.lst vs) (.lst xs)) := by
  have hIa : S.I a = none := by
    obtain ⟨b, hb, hi, _⟩ := ok.cell n c0 h0 hd0
    rw [hl] at hb; cases hb; exact hi
  have hn := (List.getElem?_eq_some_iff.mp h0).1
  refine ⟨fun b x e => ?_, by show S.L.length = (S.w.set n _).length; simp [ok.len], fun m c hc0 hd => ?_, fun p q b c c' h1 d1 h2 d2 l1 l2 => ?_⟩
  · have ne : b ≠ a := by rintro rfl; have e' : S.I b = some x := e; rw [hIa] at e'; cases e'
    show upd S.H a _ b = some x
    rw [upd_ne ne]; exact ok.sub b x e
  · have hc : (S.w.set n (.lst xs))[m]? = some c := hc0
    clear hc0
    by_cases e : n = m
    · subst e
      rw [List.getElem?_set_self hn] at hc
      cases hc
      exact ⟨a, hl, hIa, .lst (by show upd S.H a _ a = _; exact upd_same) hv⟩
    · rw [List.getElem?_set_ne e] at hc
      obtain ⟨b, h1, h2, r⟩ := ok.cell m c hc hd
      have ne : b ≠ a := by
        intro eb
        rw [eb] at h1
        exact e (ok.inj n m a c0 c h0 hd0 hc hd hl h1)
      refine ⟨b, h1, h2, ?_⟩
      cases r with
      | lst e' hs => exact .lst (by show upd S.H a _ b = _; rw [upd_ne ne]; exact e') hs
  · have key : ∀ (m : Nat) (c : Cell), (S.w.set n (.lst xs))[m]? = some c → c ≠ .dead → ∃ c1, S.w[m]? = some c1 ∧ c1 ≠ .dead := by
      intro m c hc hd
      by_cases e : n = m
      · subst e; exact ⟨c0, h0, hd0⟩
      · rw [List.getElem?_set_ne e] at hc; exact ⟨c, hc, hd⟩
    obtain ⟨c1, e1, f1⟩ := key p c h1 d1
    obtain ⟨c2, e2, f2⟩ := key q c' h2 d2
    exact ok.inj p q b c1 c2 e1 f1 e2 f2 l1 l2
/-- a cell is a value from now on -/
def Sit.fz (S : Sit) (n : Nat) (a : Addr) (o : HO) : Sit := { H := S.H, I := upd S.I a o, L := S.L, w := S.w.set n .dead }
theorem step_fz {n : Nat} {a : Addr} {o : HO} {c0 : Cell} (h0 : S.w[n]? = some c0) (hd0 : c0 ≠ .dead) (hl : S.L[n]? = some a) (hI : S.I a = none) : Step S (S.fz n a o) where
  I := same_upd' hI
  L := fun _ _ h => h
  fr := fun b x e hb => e
  nI := fun b h1 h2 => by
    by_cases e : b = a
    · subst e; exact .inr ⟨n, c0, h0, hd0, hl⟩
    · have : upd S.I a o b ≠ none := h1
      rw [upd_ne e] at this
      exact absurd h2 this
  nO := fun b h => by
    obtain ⟨m, c', hc, hd, hm⟩ := h
    have hc : (S.w.set n .dead)[m]? = some c' := hc
    by_cases e : n = m
    · subst e
      rw [List.getElem?_set_self (List.getElem?_eq_some_iff.mp h0).1] at hc
      cases hc
      exact absurd rfl hd
    · rw [List.getElem?_set_ne e] at hc
      exact .inl ⟨m, c', hc, hd, hm⟩
theorem ok_fz (ok : OkS K S) {n : Nat} {a : Addr} {o : HO} {c0 : Cell} (h0 : S.w[n]? = some c0) (hd0 : c0 ≠ .dead) (hl : S.L[n]? = some a) (ho : S.H a = some o) : OkS K (S.fz n a o) := by
  have hI : S.I a = none := by
    obtain ⟨b, hb, hi, _⟩ := ok.cell n c0 h0 hd0
    rw [hl] at hb; cases hb; exact hi
  have key : ∀ (m : Nat) (c : Cell), (S.w.set n Cell.dead)[m]? = some c → c ≠ .dead → n ≠ m ∧ S.w[m]? = some c := by
    intro m c hc hd
    by_cases e : n = m
    · subst e
      rw [List.getElem?_set_self (List.getElem?_eq_some_iff.mp h0).1] at hc
      cases hc
      exact absurd rfl hd
    · rw [List.getElem?_set_ne e] at hc
      exact ⟨e, hc⟩
  refine ⟨fun b x e => ?_, by show S.L.length = (S.w.set n _).length; simp [ok.len], fun m c hc0 hd => ?_, fun p q b c c' h1 d1 h2 d2 l1 l2 => ?_⟩
  · have e' : upd S.I a o b = some x := e
    by_cases eb : b = a
    · subst eb; rw [upd_same] at e'; cases e'; exact ho
    · rw [upd_ne eb] at e'; exact ok.sub b x e'
  · obtain ⟨ne, hc⟩ := key m c hc0 hd
    obtain ⟨b, h1, h2, r⟩ := ok.cell m c hc hd
    have nb : b ≠ a := by
      intro eb
      rw [eb] at h1
      exact ne (ok.inj n m a c0 c h0 hd0 hc hd hl h1)
    refine ⟨b, h1, ?_, ?_⟩
    · show upd S.I a o b = none
      rw [upd_ne nb]; exact h2
    · cases r with
      | lst e' hs => exact .lst e' (hs.step (step_fz h0 hd0 hl hI))
  · exact ok.inj p q b c c' (key p c h1 d1).2 d1 (key q c' h2 d2).2 d2 l1 l2
end

/-! ## a list, a tuple that a value stands for, through a cell too -/
theorem dr_loc {w : Wd} {n : Nat} {d : D} (h : dr w (.loc n) = some d) : ∃ c, w[n]? = some c ∧ c ≠ .dead ∧ ((∃ xs, c = .lst xs ∧ d = .lst xs) ∨ ∃ ks vs, c = .dct ks vs ∧ d = .dct ks vs) := by
  have h : (match w[n]? with
    | some (.lst xs) => some (D.lst xs)
    | some (.dct ks vs) => some (D.dct ks vs)
    | _ => none) = some d := h
  cases q : w[n]? with
  | none => rw [q] at h; cases h
  | some c =>
    rw [q] at h
    cases c with
    | lst xs => cases h; exact ⟨_, rfl, (fun z => nomatch z), .inl ⟨xs, rfl, rfl⟩⟩
    | dct ks vs => cases h; exact ⟨_, rfl, (fun z => nomatch z), .inr ⟨ks, vs, rfl, rfl⟩⟩
    | ins c fs => cases h
    | dead => cases h
theorem dr_not {w : Wd} {d d' : D} (h : dr w d = some d') (hn : ∀ n, d ≠ .loc n) : d' = d := by
  cases d with
  | loc n => exact absurd rfl (hn n)
  | _ => exact (Option.some.inj h).symm
section
variable {K : PySem.W.Frag} {S : Sit} {v : V} {d : D}
/-- a list -/
theorem lst_of (ok : OkS K S) (h : Den K S.I S.L v d) {xs : List D} (e : dr S.w d = some (.lst xs)) : ∃ a vs, v = .ref a ∧ S.H a = some (.lst vs) ∧ DenA K S.I S.L vs xs := by
  cases h with
  | lst h hs =>
    have e := dr_not e (fun n z => nomatch z)
    cases e
    exact ⟨_, _, rfl, ok.sub _ _ h, hs⟩
  | @loc a n h =>
    obtain ⟨c, hc, hd, ⟨ys, rfl, e'⟩ | ⟨ks, us, rfl, e'⟩⟩ := dr_loc e
    · cases e'
      obtain ⟨b, hb, _, r⟩ := ok.cell n _ hc hd
      rw [h] at hb; cases hb
      cases r with
      | lst e1 hs => exact ⟨_, _, rfl, e1, hs⟩
    · cases e'
  | _ => exact absurd (dr_not e (fun n z => nomatch z)) (fun z => nomatch z)
theorem dct_of (ok : OkS K S) (h : Den K S.I S.L v d) {ks vs : List D} (e : dr S.w d = some (.dct ks vs)) : ∃ a kvs, v = .ref a ∧ S.H a = some (.dK kvs) ∧ ks = kvs.map (fun kv => keyD kv.1) ∧ DenA K S.I S.L (kvs.map (·.2)) vs := by
  cases h with
  | dct h hk hs =>
    have e := dr_not e (fun n z => nomatch z)
    cases e
    exact ⟨_, _, rfl, ok.sub _ _ h, hk, hs⟩
  | loc hl =>
    obtain ⟨c, h1, h2, h3⟩ := dr_loc e
    rcases h3 with ⟨xs, rfl, z⟩ | ⟨ks', vs', rfl, z⟩
    · cases z
    · obtain ⟨b, hb, _, cr⟩ := ok.cell _ _ h1 h2
      cases cr
  | _ => have e := dr_not e (fun n z => nomatch z); cases e
theorem tup_of (ok : OkS K S) (h : Den K S.I S.L v d) {xs : List D} (e : dr S.w d = some (.tup xs)) : ∃ a vs, v = .ref a ∧ SqT K S.H a vs ∧ SqT K S.I a vs ∧ DenA K S.I S.L vs xs := by
  cases h with
  | tup h hs =>
    have e := dr_not e (fun n z => nomatch z)
    cases e
    exact ⟨_, _, rfl, Same_seqT ok.sub h, h, hs⟩
  | @loc a n h =>
    obtain ⟨c, hc, hd, ⟨ys, rfl, e'⟩ | ⟨ks, us, rfl, e'⟩⟩ := dr_loc e
    · cases e'
    · cases e'
  | _ => exact absurd (dr_not e (fun n z => nomatch z)) (fun z => nomatch z)
theorem scr_of (ok : OkS K S) (h : Den K S.I S.L v d) {ns : List Int} (e : dr S.w d = some (.scr ns)) : ∃ a, v = .ref a ∧ SqL K S.H a (ns.map V.int) := by
  cases h with
  | scr h =>
    have e := dr_not e (fun n z => nomatch z)
    cases e
    exact ⟨_, rfl, ok.sub.seq h⟩
  | @loc a n h =>
    obtain ⟨c, hc, hd, ⟨ys, rfl, e'⟩ | ⟨ks, us, rfl, e'⟩⟩ := dr_loc e
    · cases e'
    · cases e'
  | _ => exact absurd (dr_not e (fun n z => nomatch z)) (fun z => nomatch z)
theorem int_of (h : Den K S.I S.L v d) {i : Int} (e : dr S.w d = some (.int i)) : v = .int i := by
  cases h with
  | int j =>
    have e := dr_not e (fun n z => nomatch z)
    cases e; rfl
  | @loc a n h =>
    obtain ⟨c, hc, hd, ⟨ys, rfl, e'⟩ | ⟨ks, us, rfl, e'⟩⟩ := dr_loc e
    · cases e'
    · cases e'
  | _ => exact absurd (dr_not e (fun n z => nomatch z)) (fun z => nomatch z)
end
end Ir
/-! # the small operations keep to the evaluator -/
namespace Ir
open PySem PySem.Spec PyProof.Rows L2

/-! ## data -/
mutual
def toPy : D → PyData
  | .bl b => .bool b
  | .int i => .int i
  | .str x => .str x
  | .tup xs => .tuple (toPys xs)
  | .lst xs => .list (toPys xs)
  | _ => .none
def toPys : List D → List PyData
  | [] => []
  | x :: xs => toPy x :: toPys xs
end
theorem toPys_map : ∀ xs : List D, toPys xs = xs.map toPy
  | [] => rfl
  | x :: xs => by rw [toPys, toPys_map xs]; rfl
theorem pd_tup {xs : List D} {n : Nat} (h : pd (.tup xs) = some n) : ∃ m, pds xs = some m ∧ n = m + 1 := by
  rw [pd] at h
  cases q : pds xs with
  | none => rw [q] at h; cases h
  | some m => rw [q] at h; exact ⟨m, rfl, (Option.some.inj h).symm⟩
theorem pd_lst {xs : List D} {n : Nat} (h : pd (.lst xs) = some n) : ∃ m, pds xs = some m ∧ n = m + 1 := by
  rw [pd] at h
  cases q : pds xs with
  | none => rw [q] at h; cases h
  | some m => rw [q] at h; exact ⟨m, rfl, (Option.some.inj h).symm⟩
theorem pds_cons {x : D} {xs : List D} {n : Nat} (h : pds (x :: xs) = some n) : ∃ a b, pd x = some a ∧ pds xs = some b ∧ n = max a b := by
  rw [pds] at h
  cases q : pd x with
  | none => rw [q] at h; cases h
  | some a =>
    cases q2 : pds xs with
    | none => rw [q, q2] at h; cases h
    | some b => rw [q, q2] at h; exact ⟨a, b, rfl, rfl, (Option.some.inj h).symm⟩
section
variable {K : PySem.W.Frag} {I H : Hp} {L : List Addr}
mutual
theorem dp_of (hs : Same I H) : ∀ {v : V} {d : D} {n : Nat}, Den K I L v d → pd d = some n → Dp K H v (toPy d) ∧ (toPy d).canLay0 = true ∧ (toPy d).depth = n
  | _, _, _, .non, h => by cases h; exact ⟨.non, rfl, rfl⟩
  | _, _, _, .bl b, h => by cases h; exact ⟨.bl b, rfl, rfl⟩
  | _, _, _, .int i, h => by cases h; exact ⟨.int i, rfl, rfl⟩
  | _, _, _, .str x hx, h => by cases h; exact ⟨.str x, by rw [toPy, PyData.canLay0]; exact hx, rfl⟩
  | _, _, _, .tup ht hd, h => by
    obtain ⟨m, e, rfl⟩ := pd_tup h
    obtain ⟨h1, h2, h3⟩ := dps_of hs hd e
    exact ⟨.tup (Same_seqT hs ht) h1, by rw [toPy, PyData.canLay0]; exact h2, by rw [toPy, PyData.depth, h3]⟩
  | _, _, _, .lst ht hd, h => by
    obtain ⟨m, e, rfl⟩ := pd_lst h
    obtain ⟨h1, h2, h3⟩ := dps_of hs hd e
    exact ⟨.lst (.of (hs _ _ ht)) h1, by rw [toPy, PyData.canLay0]; exact h2, by rw [toPy, PyData.depth, h3]⟩
  | _, _, _, .scr _, h => by cases h
  | _, _, _, .rng _, h => by cases h
  | _, _, _, .loc _, h => by cases h
theorem dps_of (hs : Same I H) : ∀ {vs : List V} {ds : List D} {n : Nat}, DenA K I L vs ds → pds ds = some n → DpAll K H vs (toPys ds) ∧ PyData.canLayAll0 (toPys ds) = true ∧ PyData.depthAll (toPys ds) = n
  | _, _, _, .nil, h => by cases h; exact ⟨.nil, rfl, rfl⟩
  | _, _, _, .cons hd ht, h => by
    obtain ⟨a, b, e1, e2, rfl⟩ := pds_cons h
    obtain ⟨h1, h2, h3⟩ := dp_of hs hd e1
    obtain ⟨k1, k2, k3⟩ := dps_of hs ht e2
    exact ⟨.cons h1 k1, by rw [toPys, PyData.canLayAll0, h2, k2]; rfl, by rw [toPys, PyData.depthAll, h3, k3]⟩
end
mutual
theorem eqv_of : ∀ {a b : D} {m n : Nat}, pd a = some m → pd b = some n → PyData.eqv (toPy a) (toPy b) = deq a b
  | .non, b, _, _, h1, h2 => by cases b <;> first | (cases h2; done) | simp [toPy, PyData.eqv, deq]
  | .bl x, b, _, _, h1, h2 => by cases b <;> first | (cases h2; done) | simp [toPy, PyData.eqv, deq]
  | .int x, b, _, _, h1, h2 => by cases b <;> first | (cases h2; done) | simp [toPy, PyData.eqv, deq]
  | .str x, b, _, _, h1, h2 => by cases b <;> first | (cases h2; done) | simp [toPy, PyData.eqv, deq]
  | .tup xs, b, _, _, h1, h2 => by
    obtain ⟨m, e1, _⟩ := pd_tup h1
    cases b with
    | tup ys =>
      obtain ⟨n, e2, _⟩ := pd_tup h2
      rw [toPy, toPy, PyData.eqv, deq]
      exact eqvs_of e1 e2
    | _ => first | (cases h2; done) | simp [toPy, PyData.eqv, deq]
  | .lst xs, b, _, _, h1, h2 => by
    obtain ⟨m, e1, _⟩ := pd_lst h1
    cases b with
    | lst ys =>
      obtain ⟨n, e2, _⟩ := pd_lst h2
      rw [toPy, toPy, PyData.eqv, deq]
      exact eqvs_of e1 e2
    | _ => first | (cases h2; done) | simp [toPy, PyData.eqv, deq]
  | .scr _, _, _, _, h, _ => by cases h
  | .dct _ _, _, _, _, h, _ => by cases h
  | .set _, _, _, _, h, _ => by cases h
  | .rng _ _, _, _, _, h, _ => by cases h
  | .exc _, _, _, _, h, _ => by cases h
  | .loc _, _, _, _, h, _ => by cases h
theorem eqvs_of : ∀ {a b : List D} {m n : Nat}, pds a = some m → pds b = some n → PyData.eqvAll (toPys a) (toPys b) = deqs a b
  | [], [], _, _, _, _ => by simp [toPys, PyData.eqvAll, deqs]
  | [], _ :: _, _, _, _, _ => by simp [toPys, PyData.eqvAll, deqs]
  | _ :: _, [], _, _, _, _ => by simp [toPys, PyData.eqvAll, deqs]
  | x :: xs, y :: ys, _, _, h1, h2 => by
    obtain ⟨a, b, e1, e2, _⟩ := pds_cons h1
    obtain ⟨c, d, f1, f2, _⟩ := pds_cons h2
    rw [toPys, toPys, PyData.eqvAll, deqs, eqv_of e1 f1, eqvs_of e2 f2]
end
end
theorem shaped_of {d : PyData} {n : Nat} (h1 : d.canLay0 = true) (h2 : d.depth = n) (h3 : n ≤ 60) : SeqAt.shaped d = true := by
  show (d.canLay0 && decide (d.depth ≤ 64)) = true
  rw [h1, h2, decide_eq_true (by omega)]; rfl
section
variable {K : PySem.W.Frag} {S : Sit} {v : V} {d d' : D}
/-- any value that is pure, through a cell too -/
theorem dp_at (ok : OkS K S) (h : Den K S.I S.L v d) (e : dr S.w d = some d') {n : Nat} (hp : pd (unscr d') = some n) : Dp K S.H v (toPy (unscr d')) ∧ (toPy (unscr d')).canLay0 = true ∧ (toPy (unscr d')).depth = n := by
  by_cases hl : ∃ k, d = .loc k
  · obtain ⟨k, rfl⟩ := hl
    obtain ⟨c, hc, hd, ⟨xs, rfl, rfl⟩ | ⟨ks, us, rfl, rfl⟩⟩ := dr_loc e
    · obtain ⟨a, vs, rfl, hH, hs⟩ := lst_of ok h e
      obtain ⟨m, e1, rfl⟩ := pd_lst hp
      obtain ⟨h1, h2, h3⟩ := dps_of ok.sub hs e1
      exact ⟨.lst (.of hH) h1, by show (toPy (.lst xs)).canLay0 = true; rw [toPy, PyData.canLay0]; exact h2, by show (toPy (.lst xs)).depth = m + 1; rw [toPy, PyData.depth, h3]⟩
    · cases hp
  · have e' := dr_not e (fun n z => hl ⟨n, z⟩)
    subst e'
    cases d' with
    | scr ns =>
      obtain ⟨a, rfl, hq⟩ := scr_of ok h e
      obtain ⟨m, e1, rfl⟩ := pd_lst hp
      have hs : DenA K S.I S.L (ns.map V.int) (ns.map D.int) := DenA.ofInts ns
      obtain ⟨h1, h2, h3⟩ := dps_of ok.sub hs e1
      exact ⟨.lst hq h1, by rw [unscr, toPy, PyData.canLay0]; exact h2, by rw [unscr, toPy, PyData.depth, h3]⟩
    | _ => exact dp_of ok.sub h hp
end

/-! ## two-place operations -/
def BOp.py : BOp → Operator
  | .add => .Add
  | .sub => .Sub
  | .mul => .Mult
  | .fdiv => .FloorDiv
  | .mod => .Mod
  | .pow => .Pow
def COp.py : COp → CmpOp
  | .eq => .Eq
  | .ne => .NotEq
  | .lt => .Lt
  | .le => .LtE
  | .gt => .Gt
  | .ge => .GtE
  | .isin => .In
  | .notin => .NotIn
  | .is_ => .Is
  | .isnot => .IsNot
/-- what follows a value that stands for o, the cells as they were -/
def AnsV (K : PySem.W.Frag) (S : Sit) (o : Option D) (Q : VK) : Prop := match o with
  | some d => ∀ v S', Step S S' → OkS K S' → S'.w = S.w → Den K S'.I S'.L v d → Q v S'.H
  | none => False
def Rb (K : PySem.W.Frag) (f : D → D → Wd → Option D) : R2 := fun x y H Q => ∃ S dx dy, S.H = H ∧ OkS K S ∧ Den K S.I S.L x dx ∧ Den K S.I S.L y dy ∧ AnsV K S (f dx dy S.w) Q
theorem line_eq : line = sizeLine := by rw [sizeLine_eq]; rfl
section
variable {K : PySem.W.Frag} {S : Sit} {Q : VK}
theorem AnsV.here {d : D} (A : AnsV K S (some d) Q) (ok : OkS K S) {v : V} (h : Den K S.I S.L v d) : Q v S.H := A v S (.refl S) ok rfl h
theorem AnsV.newT {ds : List D} {vs : List V} (A : AnsV K S (some (.tup ds)) Q) (ok : OkS K S) (h : DenA K S.I S.L vs ds) (p : Addr) (hp : S.H p = none) : Q (.ref p) (upd S.H p (.tup vs)) :=
  A (.ref p) (S.new p (.tup vs)) (step_new ok hp) (ok_new ok hp) rfl (.tup (.of (show upd S.I p (.tup vs) p = _ from upd_same)) (h.step (step_new ok hp)))
theorem AnsV.newL {ds : List D} {vs : List V} (A : AnsV K S (some (.lst ds)) Q) (ok : OkS K S) (h : DenA K S.I S.L vs ds) (p : Addr) (hp : S.H p = none) : Q (.ref p) (upd S.H p (.lst vs)) :=
  A (.ref p) (S.new p (.lst vs)) (step_new ok hp) (ok_new ok hp) rfl (.lst (show upd S.I p (.lst vs) p = _ from upd_same) (h.step (step_new ok hp)))
end
theorem bin_some {o : BOp} {x y : D} {w : Wd} {K : PySem.W.Frag} {S : Sit} {Q : VK} (A : AnsV K S (bin o x y w) Q) : ∃ x' y', dr w x = some x' ∧ dr w y = some y' ∧ AnsV K S (bop o x' y') Q := by
  unfold bin at A
  cases q1 : dr w x with
  | none => rw [q1] at A; exact A.elim
  | some x' =>
    cases q2 : dr w y with
    | none => rw [q1, q2] at A; exact A.elim
    | some y' => rw [q1, q2] at A; exact ⟨x', y', rfl, rfl, A⟩
section
variable {X : Cx}
theorem op_bin (o : BOp) : OpR X (binaryOp o.py) (Rb X.K (bin o)) := by
  intro pins s σ H x y v u Q I rx ry ⟨S, dx, dy, hH, ok, hx, hy, A⟩
  subst hH
  obtain ⟨x', y', e1, e2, A⟩ := bin_some A
  have II : ∀ i j, x' = .int i → y' = .int j → x = .int i ∧ y = .int j := fun i j a b => by
    subst a b
    exact ⟨int_of hx e1, int_of hy e2⟩
  cases o with
  | add =>
    have A : AnsV X.K S (addD x' y') Q := A
    cases x' with
    | int i =>
      cases y' with
      | int j =>
        obtain ⟨rfl, rfl⟩ := II i j rfl rfl
        exact op_add pins s σ _ _ _ v u Q I rx ry ⟨i, j, rfl, rfl, A.here ok (.int _)⟩
      | _ => exact A.elim
    | tup xs =>
      cases y' with
      | tup ys =>
        obtain ⟨a, vs, rfl, h1, k1, d1⟩ := tup_of ok hx e1
        obtain ⟨b, us, rfl, h2, k2, d2⟩ := tup_of ok hy e2
        have A : AnsV X.K S (if xs.length + ys.length ≤ line then some (.tup (xs ++ ys)) else none) Q := A
        by_cases hz : xs.length + ys.length ≤ line
        · rw [if_pos hz] at A
          refine op_catA pins s σ _ _ _ v u Q I rx ry ⟨a, b, vs, us, rfl, rfl, h1, h2, by rw [← line_eq, d1.length, d2.length]; exact hz, fun e => ?_, fun _ e => ?_, fun _ _ p hp => A.newT ok (d1.append d2) p hp⟩
          · subst e
            cases d1
            exact A.here ok (.tup k2 d2)
          · subst e
            cases d2
            rw [List.append_nil] at A
            exact A.here ok (.tup k1 d1)
        · rw [if_neg hz] at A; exact A.elim
      | _ => exact A.elim
    | lst xs =>
      cases y' with
      | lst ys =>
        obtain ⟨a, vs, rfl, h1, d1⟩ := lst_of ok hx e1
        obtain ⟨b, us, rfl, h2, d2⟩ := lst_of ok hy e2
        have A : AnsV X.K S (if xs.length + ys.length ≤ line then some (.lst (xs ++ ys)) else none) Q := A
        by_cases hz : xs.length + ys.length ≤ line
        · rw [if_pos hz] at A
          exact op_cat pins s σ _ _ _ v u Q I rx ry ⟨a, b, vs, us, rfl, rfl, h1, h2, by rw [← line_eq, d1.length, d2.length]; exact hz, fun p hp => A.newL ok (d1.append d2) p hp⟩
        · rw [if_neg hz] at A; exact A.elim
      | _ => exact A.elim
    | _ => cases y' <;> exact A.elim
  | sub =>
    cases x' with
    | int i =>
      cases y' with
      | int j =>
        obtain ⟨rfl, rfl⟩ := II i j rfl rfl
        have A : AnsV X.K S (some (.int (i - j))) Q := A
        exact op_sub pins s σ _ _ _ v u Q I rx ry ⟨i, j, rfl, rfl, A.here ok (.int _)⟩
      | _ => exact A.elim
    | _ => cases y' <;> exact A.elim
  | mul =>
    have A : AnsV X.K S (mulD x' y') Q := A
    cases x' with
    | int i =>
      cases y' with
      | int j =>
        obtain ⟨rfl, rfl⟩ := II i j rfl rfl
        have A : AnsV X.K S (if cmul i j then some (.int (i * j)) else none) Q := A
        by_cases hz : cmul i j = true
        · rw [if_pos hz] at A
          refine op_mul pins s σ _ _ _ v u Q I rx ry ⟨i, j, rfl, rfl, ?_, A.here ok (.int _)⟩
          unfold cmul at hz
          simp only [Bool.or_eq_true, Bool.and_eq_true, decide_eq_true_eq] at hz
          show (-(2 ^ 64) < i ∧ i < 2 ^ 64) ∨ (-(2 ^ 64) < j ∧ j < 2 ^ 64)
          omega
        · rw [if_neg hz] at A; exact A.elim
      | _ => exact A.elim
    | lst xs =>
      cases y' with
      | int k =>
        obtain ⟨a, vs, rfl, h1, d1⟩ := lst_of ok hx e1
        have hk := int_of hy e2
        subst hk
        have A : AnsV X.K S (if -9223372036854775808 ≤ k ∧ k < 9223372036854775808 ∧ xs.length * k.toNat ≤ line then some (.lst (List.replicate k.toNat xs).flatten) else none) Q := A
        by_cases hz : -9223372036854775808 ≤ k ∧ k < 9223372036854775808 ∧ xs.length * k.toNat ≤ line
        · rw [if_pos hz] at A
          exact op_rep pins s σ _ _ _ v u Q I rx ry ⟨a, k, vs, rfl, rfl, h1, by omega, by omega, by rw [← line_eq, d1.length]; exact hz.2.2, fun p hp => A.newL ok (d1.rep _) p hp⟩
        · rw [if_neg hz] at A; exact A.elim
      | _ => exact A.elim
    | _ => cases y' <;> exact A.elim
  | fdiv =>
    cases x' with
    | int i =>
      cases y' with
      | int j =>
        obtain ⟨rfl, rfl⟩ := II i j rfl rfl
        have A : AnsV X.K S (if 0 < j ∧ j < 1073741824 then some (.int (i / j)) else none) Q := A
        by_cases hz : 0 < j ∧ j < 1073741824
        · rw [if_pos hz] at A
          exact op_fdiv pins s σ _ _ _ v u Q I rx ry ⟨i, j, rfl, rfl, hz, A.here ok (.int _)⟩
        · rw [if_neg hz] at A; exact A.elim
      | _ => exact A.elim
    | _ => cases y' <;> exact A.elim
  | mod =>
    cases x' with
    | int i =>
      cases y' with
      | int j =>
        obtain ⟨rfl, rfl⟩ := II i j rfl rfl
        have A : AnsV X.K S (if 0 < j then some (.int (i % j)) else none) Q := A
        by_cases hz : 0 < j
        · rw [if_pos hz] at A
          exact op_mod pins s σ _ _ _ v u Q I rx ry ⟨i, j, rfl, rfl, hz, A.here ok (.int _)⟩
        · rw [if_neg hz] at A; exact A.elim
      | _ => exact A.elim
    | _ => cases y' <;> exact A.elim
  | pow =>
    cases x' with
    | int i =>
      cases y' with
      | int j =>
        obtain ⟨rfl, rfl⟩ := II i j rfl rfl
        have A : AnsV X.K S (if 0 ≤ j ∧ j ≤ 1000000 ∧ i.natAbs < 18446744073709551616 then some (.int (i ^ j.toNat)) else none) Q := A
        by_cases hz : 0 ≤ j ∧ j ≤ 1000000 ∧ i.natAbs < 18446744073709551616
        · rw [if_pos hz] at A
          exact op_pow pins s σ _ _ _ v u Q I rx ry ⟨i, j, rfl, rfl, ⟨hz.1, hz.2.1, by have := hz.2.2; omega⟩, A.here ok (.int _)⟩
        · rw [if_neg hz] at A; exact A.elim
      | _ => exact A.elim
    | _ => cases y' <;> exact A.elim

/-! ## comparisons -/
def Rc (K : PySem.W.Frag) (o : COp) : R2 := Rb K fun x y w => (copD o x y w).map .bl
theorem dr_some2 {K : PySem.W.Frag} {S : Sit} {Q : VK} {w : Wd} {x y : D} {f : D → D → Option D} (A : AnsV K S (match dr w x, dr w y with
    | some x', some y' => f x' y'
    | _, _ => none) Q) : ∃ x' y', dr w x = some x' ∧ dr w y = some y' ∧ AnsV K S (f x' y') Q := by
  cases q1 : dr w x with
  | none => rw [q1] at A; exact A.elim
  | some x' =>
    cases q2 : dr w y with
    | none => rw [q1, q2] at A; exact A.elim
    | some y' => rw [q1, q2] at A; exact ⟨x', y', rfl, rfl, A⟩
theorem eqD_some {a b : D} {c : Bool} (h : eqD a b = some c) : ∃ m n, pd a = some m ∧ pd b = some n ∧ m ≤ 60 ∧ n ≤ 60 ∧ c = deq a b := by
  unfold eqD at h
  cases q1 : pd a with
  | none => rw [q1] at h; cases h
  | some m =>
    cases q2 : pd b with
    | none => rw [q1, q2] at h; cases h
    | some n =>
      rw [q1, q2] at h
      have h : (if m ≤ 60 ∧ n ≤ 60 then some (deq a b) else none) = some c := h
      by_cases hz : m ≤ 60 ∧ n ≤ 60
      · rw [if_pos hz] at h
        exact ⟨m, n, rfl, rfl, hz.1, hz.2, (Option.some.inj h).symm⟩
      · rw [if_neg hz] at h; cases h
theorem memD_some {x : D} {ys : List D} {c : Bool} (h : memD x ys = some c) : ∃ m n, pd x = some m ∧ pds ys = some n ∧ m ≤ 60 ∧ n ≤ 60 ∧ c = ys.any fun z => deq z x := by
  unfold memD at h
  cases q1 : pd x with
  | none => rw [q1] at h; cases h
  | some m =>
    cases q2 : pds ys with
    | none => rw [q1, q2] at h; cases h
    | some n =>
      rw [q1, q2] at h
      have h : (if m ≤ 60 ∧ n ≤ 60 then some (ys.any fun z => deq z x) else none) = some c := h
      by_cases hz : m ≤ 60 ∧ n ≤ 60
      · rw [if_pos hz] at h
        exact ⟨m, n, rfl, rfl, hz.1, hz.2, (Option.some.inj h).symm⟩
      · rw [if_neg hz] at h; cases h
theorem any_eqv {x : D} {m : Nat} (hx : pd x = some m) : ∀ {ys : List D} {n : Nat}, pds ys = some n → ((toPys ys).any fun z => PyData.eqv z (toPy x)) = ys.any fun z => deq z x
  | [], _, _ => rfl
  | y :: ys, _, h => by
    obtain ⟨a, b, e1, e2, _⟩ := pds_cons h
    rw [toPys, List.any_cons, List.any_cons, eqv_of e1 hx, any_eqv hx e2]
theorem ansMap {K : PySem.W.Frag} {S : Sit} {Q : VK} {o : Option Bool} (A : AnsV K S (o.map .bl) Q) (ok : OkS K S) : ∃ b, o = some b ∧ Q (.bl b) S.H := by
  cases o with
  | none => exact A.elim
  | some b => exact ⟨b, rfl, AnsV.here (d := .bl b) A ok (.bl b)⟩
theorem flatD_V {K : PySem.W.Frag} {I : Hp} {L : List Addr} {v : V} {d : D} (h : Den K I L v d) (f : flatD d = true) : flatV v = true := by
  cases h <;> first | rfl | (cases f; done)
theorem flatD_Vs {K : PySem.W.Frag} {I : Hp} {L : List Addr} : ∀ {vs : List V} {ds : List D}, DenA K I L vs ds → ds.all flatD = true → vs.all flatV = true
  | _, _, .nil, _ => rfl
  | _, _, .cons h hs, f => by
    rw [List.all_cons, Bool.and_eq_true] at f ⊢
    exact ⟨flatD_V h f.1, flatD_Vs hs f.2⟩
theorem eqV_deq {K : PySem.W.Frag} {I : Hp} {L : List Addr} {v u : V} {d e : D} (h : Den K I L v d) (k : Den K I L u e) (f : flatD d = true) (g : flatD e = true) : eqV v u = deq d e := by
  cases h <;> first | (cases f; done) | (cases k <;> first | (cases g; done) | (simp [eqV, deq]; done) | rfl | skip)
theorem inV_any {K : PySem.W.Frag} {I : Hp} {L : List Addr} {x : V} {d : D} (h : Den K I L x d) (f : flatD d = true) : ∀ {vs : List V} {ds : List D}, DenA K I L vs ds → ds.all flatD = true → inV x vs = ds.any fun z => deq z d
  | _, _, .nil, _ => rfl
  | _, _, .cons k ks, g => by
    rw [List.all_cons, Bool.and_eq_true] at g
    have ih := inV_any h f ks g.2
    unfold inV at ih ⊢
    rw [List.any_cons, List.any_cons, ih, eqV_deq k h g.1 f]
theorem ord_ints {K : PySem.W.Frag} {S : Sit} {Q : VK} {f : Int → Int → Bool} {x y : V} {dx dy : D} (A : AnsV K S ((ordD f dx dy).map .bl) Q) (ok : OkS K S) (hx : Den K S.I S.L x dx) (hy : Den K S.I S.L y dy) :
    ∃ i j, x = .int i ∧ y = .int j ∧ Q (.bl (f i j)) S.H := by
  cases hx with
  | int i =>
    cases hy with
    | int j => exact ⟨i, j, rfl, rfl, AnsV.here (d := .bl (f i j)) A ok (.bl _)⟩
    | _ => exact A.elim
  | _ => cases hy <;> exact A.elim
theorem den_non {K : PySem.W.Frag} {I : Hp} {L : List Addr} {v : V} {d : D} (h : Den K I L v d) : (v = .non) ↔ (d = .non) := by
  cases h <;> simp
theorem op_cop (hu : X.A.units + 65 < cLine) (o : COp) : OpR X (compareOp o.py) (Rc X.K o) := by
  intro pins s σ H x y v u Q I rx ry ⟨S, dx, dy, hH, ok, hx, hy, A⟩
  subst hH
  obtain ⟨b, hb, q⟩ := ansMap A ok
  have isC : ∀ {neg : Bool} {c : Bool}, (isD dx dy) = some c → b = (if neg then !c else c) → (neg = false → wpAny (model X.prog X.w) X.A (compareOp .Is v u) (EP X pins σ Q) X.xe s) ∧ (neg = true → wpAny (model X.prog X.w) X.A (compareOp .IsNot v u) (EP X pins σ Q) X.xe s) := by
    intro neg c hc hbc
    cases hy with
    | non =>
      have key : c = decide (x = .non) := by
        have h1 := den_non hx
        cases hx <;> (simp only [isD] at hc; first | (cases hc; simp; done) | cases hc)
      refine ⟨fun e => ?_, fun e => ?_⟩
      · subst e
        refine op_isN pins s σ _ _ _ v u Q I rx ry ⟨rfl, ?_⟩
        rw [← key]; rw [hbc] at q; exact q
      · subst e
        refine op_notN pins s σ _ _ _ v u Q I rx ry ⟨rfl, ?_⟩
        rw [← key]; rw [hbc] at q; exact q
    | bl b2 =>
      cases hx with
      | bl b1 =>
        have hc : some (decide (b1 = b2)) = some c := hc
        have key : c = decide (b1 = b2) := (Option.some.inj hc).symm
        refine ⟨fun e => ?_, fun e => ?_⟩
        · subst e
          refine op_isBl pins s σ _ _ _ v u Q I rx ry ⟨b1, b2, rfl, rfl, ?_⟩
          rw [← key]; rw [hbc] at q; exact q
        · subst e
          refine op_notBl pins s σ _ _ _ v u Q I rx ry ⟨b1, b2, rfl, rfl, ?_⟩
          rw [← key]; rw [hbc] at q; exact q
      | _ => cases hc
    | _ => cases hc
  have inC : ∀ {neg : Bool} {c : Bool} {y' : D}, dr S.w dy = some y' → isinD dx y' = some c → b = (if neg then !c else c) → (neg = true → ∀ lo hi, y' ≠ .rng lo hi) → (neg = false → wpAny (model X.prog X.w) X.A (compareOp .In v u) (EP X pins σ Q) X.xe s) ∧ (neg = true → wpAny (model X.prog X.w) X.A (compareOp .NotIn v u) (EP X pins σ Q) X.xe s) := by
    intro neg c y' hy' hc hbc hnr
    cases y' with
    | lst ys =>
      obtain ⟨a, us, rfl, h1, d1⟩ := lst_of ok hy hy'
      obtain ⟨m, n, e1, e2, l1, l2, rfl⟩ := memD_some (show memD dx ys = some c from hc)
      obtain ⟨p1, p2, p3⟩ := dp_of ok.sub hx e1
      obtain ⟨r1, r2, r3⟩ := dps_of ok.sub d1 e2
      have sx := shaped_of p2 p3 l1
      have sy : SeqAt.shaped (.list (toPys ys)) = true := by
        show (PyData.canLay0 (.list (toPys ys)) && decide (PyData.depth (.list (toPys ys)) ≤ 64)) = true
        rw [PyData.canLay0, PyData.depth, r2, r3, decide_eq_true (by omega)]; rfl
      refine ⟨fun e => ?_, fun e => ?_⟩
      · subst e
        refine op_inD hu pins s σ _ _ _ v u Q I rx ry ⟨toPy dx, toPys ys, p1, .lst (.of h1) r1, sx, sy, ?_⟩
        rw [any_eqv e1 e2]; rw [hbc] at q; exact q
      · subst e
        refine op_notInD hu pins s σ _ _ _ v u Q I rx ry ⟨toPy dx, toPys ys, p1, .lst (.of h1) r1, sx, sy, ?_⟩
        rw [any_eqv e1 e2]; rw [hbc] at q; exact q
    | tup ys =>
      obtain ⟨a, us, rfl, h1, _, d1⟩ := tup_of ok hy hy'
      have hc : (if (flatD dx && ys.all flatD) = true then some (ys.any fun z => deq z dx) else none) = some c := hc
      by_cases hf : (flatD dx && ys.all flatD) = true
      · rw [if_pos hf] at hc
        have hc := (Option.some.inj hc).symm
        subst hc
        obtain ⟨f1, f2⟩ := Bool.and_eq_true_iff.mp hf
        refine ⟨fun e => ?_, fun e => ?_⟩
        · subst e
          refine op_in_seq pins s σ _ _ _ v u Q I rx ry ⟨a, us, rfl, .inr h1, flatD_V hx f1, flatD_Vs d1 f2, ?_⟩
          rw [inV_any hx f1 d1 f2]; rw [hbc] at q; exact q
        · subst e
          refine op_notIn_seq pins s σ _ _ _ v u Q I rx ry ⟨a, us, rfl, .inr h1, flatD_V hx f1, flatD_Vs d1 f2, ?_⟩
          rw [inV_any hx f1 d1 f2]; rw [hbc] at q; exact q
      · rw [if_neg hf] at hc; cases hc
    | rng lo hi =>
      cases hx with
      | int i =>
        have e := dr_not hy' (fun n z => by
          subst z
          obtain ⟨c, _, _, ⟨_, _, z⟩ | ⟨_, _, _, z⟩⟩ := dr_loc hy' <;> cases z)
        subst e
        cases hy with
        | rng h =>
          have hc : some (decide (lo ≤ i ∧ i < hi)) = some c := hc
          have hc := (Option.some.inj hc).symm
          subst hc
          refine ⟨fun e => ?_, fun e => ?_⟩
          · subst e
            refine op_in_rng pins s σ _ _ _ v u Q I rx ry ⟨i, _, lo, hi, rfl, rfl, ok.sub _ _ h, ?_⟩
            rw [hbc] at q; exact q
          · exact absurd rfl (hnr e lo hi)
      | _ => cases hc
    | _ => cases hc
  cases o with
  | eq =>
    have hb' : (match dr S.w dx, dr S.w dy with
      | some x', some y' => eqD (unscr x') (unscr y')
      | _, _ => none) = some b := hb
    cases q1 : dr S.w dx with
    | none => rw [q1] at hb'; cases hb'
    | some x' =>
      cases q2 : dr S.w dy with
      | none => rw [q1, q2] at hb'; cases hb'
      | some y' =>
        rw [q1, q2] at hb'
        obtain ⟨m, n, e1, e2, l1, l2, hbc⟩ := eqD_some (show eqD (unscr x') (unscr y') = some b from hb')
        obtain ⟨p1, p2, p3⟩ := dp_at ok hx q1 e1
        obtain ⟨r1, r2, r3⟩ := dp_at ok hy q2 e2
        refine op_eqD (by omega) pins s σ _ _ _ v u Q I rx ry ⟨_, _, p1, r1, shaped_of p2 p3 l1, shaped_of r2 r3 l2, ?_⟩
        rw [eqv_of e1 e2, ← hbc]; exact q
  | ne =>
    have hb' : (match dr S.w dx, dr S.w dy with
      | some x', some y' => (eqD (unscr x') (unscr y')).map (!·)
      | _, _ => none) = some b := hb
    cases q1 : dr S.w dx with
    | none => rw [q1] at hb'; cases hb'
    | some x' =>
      cases q2 : dr S.w dy with
      | none => rw [q1, q2] at hb'; cases hb'
      | some y' =>
        rw [q1, q2] at hb'
        have hb' : (eqD (unscr x') (unscr y')).map (!·) = some b := hb'
        cases q3 : eqD (unscr x') (unscr y') with
        | none => rw [q3] at hb'; cases hb'
        | some c =>
          rw [q3] at hb'
          have hbc := (Option.some.inj hb').symm
          obtain ⟨m, n, e1, e2, l1, l2, hc⟩ := eqD_some q3
          obtain ⟨p1, p2, p3⟩ := dp_at ok hx q1 e1
          obtain ⟨r1, r2, r3⟩ := dp_at ok hy q2 e2
          refine op_neD (by omega) pins s σ _ _ _ v u Q I rx ry ⟨_, _, p1, r1, shaped_of p2 p3 l1, shaped_of r2 r3 l2, ?_⟩
          rw [eqv_of e1 e2, ← hc]; rw [hbc] at q; exact q
  | lt =>
    obtain ⟨i, j, rfl, rfl, q⟩ := ord_ints A ok hx hy
    exact op_lt pins s σ _ _ _ v u Q I rx ry ⟨i, j, rfl, rfl, q⟩
  | le =>
    obtain ⟨i, j, rfl, rfl, q⟩ := ord_ints A ok hx hy
    exact op_le pins s σ _ _ _ v u Q I rx ry ⟨i, j, rfl, rfl, q⟩
  | gt =>
    obtain ⟨i, j, rfl, rfl, q⟩ := ord_ints A ok hx hy
    exact op_gt pins s σ _ _ _ v u Q I rx ry ⟨i, j, rfl, rfl, q⟩
  | ge =>
    obtain ⟨i, j, rfl, rfl, q⟩ := ord_ints A ok hx hy
    exact op_ge pins s σ _ _ _ v u Q I rx ry ⟨i, j, rfl, rfl, q⟩
  | isin =>
    have hb' : (match dr S.w dy with
      | some y' => isinD dx y'
      | none => none) = some b := hb
    cases q2 : dr S.w dy with
    | none => rw [q2] at hb'; cases hb'
    | some y' =>
      rw [q2] at hb'
      exact (inC (neg := false) q2 hb' rfl (fun e => nomatch e)).1 rfl
  | notin =>
    have hb' : (match dr S.w dy with
      | some (.rng _ _) => none
      | some y' => (isinD dx y').map (!·)
      | none => none) = some b := hb
    cases q2 : dr S.w dy with
    | none => rw [q2] at hb'; cases hb'
    | some y' =>
      rw [q2] at hb'
      have hb2 : (isinD dx y').map (!·) = some b ∧ ∀ lo hi, y' ≠ .rng lo hi := by
        cases y' with
        | rng lo hi => cases hb'
        | _ => exact ⟨hb', fun _ _ z => nomatch z⟩
      obtain ⟨hb2, hnr⟩ := hb2
      cases q3 : isinD dx y' with
      | none => rw [q3] at hb2; cases hb2
      | some c =>
        rw [q3] at hb2
        exact (inC (neg := true) q2 q3 (Option.some.inj hb2).symm fun _ => hnr).2 rfl
  | is_ => exact (isC (neg := false) (show isD dx dy = some b from hb) rfl).1 rfl
  | isnot =>
    have hb' : (isD dx dy).map (!·) = some b := hb
    cases q3 : isD dx dy with
    | none => rw [q3] at hb'; cases hb'
    | some c =>
      rw [q3] at hb'
      exact (isC (neg := true) q3 (Option.some.inj hb').symm).2 rfl
end
end Ir
/-! # subscripts, built-in functions, methods -/
namespace Ir
open PySem PySem.Spec PyProof.Rows L2

/-- what follows an answer -/
def AnsR (K : PySem.W.Frag) (S : Sit) (r : Res D) (Q : VK) : Prop := match r with
  | .ok d w => ∀ v S', Step S S' → OkS K S' → S'.w = w → Den K S'.I S'.L v d → Q v S'.H
  | _ => False
theorem AnsR.of {K : PySem.W.Frag} {S : Sit} {o : Option D} {Q : VK} (A : AnsR K S (.of o S.w) Q) : AnsV K S o Q := by
  cases o with
  | none => exact A.elim
  | some d => exact A
section
variable {X : Cx}
theorem OpR.imp {f : Value → Value → Sem Value} {r r' : R2} (h : OpR X f r) (k : ∀ x y H Q, r' x y H Q → r x y H Q) : OpR X f r' :=
  fun pins s σ H x y v u Q I rx ry q => h pins s σ H x y v u Q I rx ry (k _ _ _ _ q)

/-! ## subscripts -/
theorem sIx_eq (n d : Nat) (o : Option Int) : sIx n d o = HT.sIx n d o := by
  cases o with
  | none => rfl
  | some v =>
    have h := HT.clip_eq v n d
    show (if v < 0 then (max (v + (n : Int)) 0).toNat else (min v (n : Int)).toNat) = _
    by_cases hv : v < 0
    · rw [if_pos hv] at h ⊢
      omega
    · rw [if_neg hv] at h ⊢
      omega
theorem DenA.cut {K : PySem.W.Frag} {I : Hp} {L : List Addr} {vs : List V} {ds : List D} (h : DenA K I L vs ds) (lo hi : Option Int) : DenA K I L (cutV vs lo hi) (cut ds lo hi) := by
  unfold cutV Ir.cut
  rw [sIx_eq, sIx_eq, h.length]
  exact (h.drop _).take _
theorem ixN_eq (n : Nat) (i : Int) : ixN n i = L2.ixN n i := rfl
theorem DenA.at {K : PySem.W.Frag} {I : Hp} {L : List Addr} {vs : List V} {ds : List D} {i : Int} {d : D} (h : DenA K I L vs ds) (e : atI ds i = some d) : ∃ v, L2.atI vs i = some v ∧ Den K I L v d := by
  unfold Ir.atI at e
  unfold L2.atI
  rw [h.length, ← ixN_eq]
  cases q : ixN ds.length i with
  | none => rw [q] at e; cases e
  | some j =>
    rw [q] at e
    exact h.get e
def Rix (K : PySem.W.Frag) : R2 := Rb K ixD
theorem look_val : ∀ {kvs : List (Key × V)} {vs : List D} {k : Key} {d : D} {K : PySem.W.Frag} {I : Hp} {L : List Addr}, DenA K I L (kvs.map (·.2)) vs → lookD (kvs.map fun kv => keyD kv.1) vs (keyD k) = some d → ∃ v, valV kvs k = some v ∧ Den K I L v d
  | [], _, _, _, _, _, _, h, e => by
    cases h
    exact absurd e (by simp [lookD])
  | (q, u) :: kvs, vs, k, d, K, I, L, h, e => by
    rw [List.map_cons] at h
    cases h with
    | @cons _ _ d0 ds hd hs =>
      rw [List.map_cons, lookD] at e
      by_cases hq : q = k
      · subst hq
        have : keyE (keyD q) (keyD q) = true := by cases q <;> simp [keyD, keyE]
        rw [if_pos this] at e
        cases e
        exact ⟨u, valV_pos rfl, hd⟩
      · have : ¬ keyE (keyD q) (keyD k) = true := by
          intro z
          apply hq
          cases q <;> cases k <;> simp [keyD, keyE] at z <;> rw [z]
        rw [if_neg this] at e
        obtain ⟨v, h1, h2⟩ := look_val hs e
        exact ⟨v, by rw [valV_neg hq]; exact h1, h2⟩
theorem key_den {K : PySem.W.Frag} {I : Hp} {L : List Addr} {v : V} {d : D} (h : Den K I L v d) (hk : keyB d = true) : ∃ k : Key, v = kV k ∧ d = keyD k := by
  cases h with
  | int i => exact ⟨.inl i, rfl, rfl⟩
  | str x _ => exact ⟨.inr x, rfl, rfl⟩
  | _ => exact absurd hk Bool.false_ne_true
theorem dct_tail {value slice : Expr} {pins : List (Addr × Obj)} {s : Shared} {σ : L2.St} {H : Hp} {a : Addr} {y v : V} {u : Value} {Q : VK} (hu : X.A.units + 1 < cLine) (I : Inv X pins σ H s) (g : DGet H a y (some v)) (ry : RelV y u)
    (hsl : subscripted slice false (.ref a) u = operate [.ref a, u] (getItem (.ref a) u)) (q : Q v H) : wpAny (model X.prog X.w) X.A (subscriptTail value slice (.ref a) u) (EP X pins σ Q) X.xe s := by
  have ty := dict_typeIs I g
  have go : wpAny (model X.prog X.w) X.A (getItem (.ref a) u) (EP X pins σ Q) X.xe s := d_getItem hu I g ry fun w' s3 I3 rw' => ⟨v, H, I3, rw', q⟩
  have last : wpAny (model X.prog X.w) X.A (subscripted slice false (.ref a) u) (fun r s₃ => wpAny (model X.prog X.w) X.A (letTemporaryGo value (.ref a) r >>= fun _ => pure r) (EP X pins σ Q) X.xe s₃) X.xe s := by
    rw [hsl]
    exact wpAny_operating (thn go fun r s₃ z => wpAny_bind (wpAny_letTemporaryGo (wpAny_pure z)))
  unfold subscriptTail
  refine wpAny_bind ?_
  rw [getitemInPython_of_ne ty.not_modules]
  refine wpAny_bind (wpAny_specialOf ty PySem.F.slot_dict_getitem.lookup ?_)
  first | exact wpAny_pure (wpAny_bind last) | exact wpAny_bind (wpAny_pure (wpAny_bind last)) | exact wpAny_bind last
theorem ix_any (hu : X.A.units + 1 < cLine) : IxR X (Rix X.K) := by
  intro value slice pins s σ H x y v u Q I rx ry ⟨S, dx, dy, hH, ok, hx, hy, A⟩ hsl
  subst hH
  unfold ixD at A
  cases q : dr S.w dx with
  | none => rw [q] at A; exact A.elim
  | some x' =>
    rw [q] at A
    cases x' with
    | dct ks vs =>
      obtain ⟨a, kvs, rfl, h1, rfl, d1⟩ := dct_of ok hx q
      have A : AnsV X.K S (if keyB dy = true then lookD (kvs.map fun kv => keyD kv.1) vs dy else none) Q := A
      by_cases hk : keyB dy = true
      · rw [if_pos hk] at A
        obtain ⟨k, rfl, rfl⟩ := key_den hy hk
        cases e : lookD (kvs.map fun kv => keyD kv.1) vs (keyD k) with
        | none => rw [e] at A; exact A.elim
        | some d =>
          rw [e] at A
          obtain ⟨z, hz, hd⟩ := look_val d1 e
          have g : DGet S.H a (kV k) (some z) := by rw [← hz]; exact DGet.k h1
          cases (show v = Value.ref a from rx)
          exact dct_tail hu I g ry hsl (A.here ok hd)
      · rw [if_neg hk] at A; exact A.elim
    | lst xs =>
      cases hy with
      | int k =>
        obtain ⟨a, vs, rfl, h1, d1⟩ := lst_of ok hx q
        have A : AnsV X.K S (atI xs k) Q := A
        cases e : atI xs k with
        | none => rw [e] at A; exact A.elim
        | some d =>
          rw [e] at A
          obtain ⟨z, hz, hd⟩ := d1.at e
          exact ix_list value slice pins s σ _ _ _ v u Q I rx ry ⟨a, vs, k, z, rfl, rfl, .of h1, hz, A.here ok hd⟩ hsl
      | _ => exact A.elim
    | tup xs =>
      cases hy with
      | int k =>
        obtain ⟨a, vs, rfl, h1, _, d1⟩ := tup_of ok hx q
        have A : AnsV X.K S (atI xs k) Q := A
        cases e : atI xs k with
        | none => rw [e] at A; exact A.elim
        | some d =>
          rw [e] at A
          obtain ⟨z, hz, hd⟩ := d1.at e
          exact ix_tup value slice pins s σ _ _ _ v u Q I rx ry ⟨a, vs, k, z, rfl, rfl, h1, hz, A.here ok hd⟩ hsl
      | _ => exact A.elim
    | scr ns =>
      cases hy with
      | int k =>
        obtain ⟨a, rfl, h1⟩ := scr_of ok hx q
        have A : AnsV X.K S (atI (ns.map .int) k) Q := A
        cases e : atI (ns.map .int) k with
        | none => rw [e] at A; exact A.elim
        | some d =>
          rw [e] at A
          obtain ⟨z, hz, hd⟩ := (DenA.ofInts (K := X.K) (I := S.I) (L := S.L) ns).at e
          exact ix_list value slice pins s σ _ _ _ v u Q I rx ry ⟨a, _, k, z, rfl, rfl, h1, hz, A.here ok hd⟩ hsl
      | _ => exact A.elim
    | _ => exact A.elim
def Rsl (K : PySem.W.Frag) : V → Option Int → Option Int → Hp → VK → Prop := fun x lo hi H Q => ∃ S dx, S.H = H ∧ OkS K S ∧ Den K S.I S.L x dx ∧
  AnsV K S (match dr S.w dx with
    | some (.lst xs) => some (.lst (cut xs lo hi))
    | some (.tup xs) => some (.tup (cut xs lo hi))
    | _ => none) Q
theorem sl_any : SlR X (Rsl X.K) := by
  intro pins s σ H x v vl vu lo hi sl Q I rx hs pl pu ⟨S, dx, hH, ok, hx, A⟩
  subst hH
  cases q : dr S.w dx with
  | none => rw [q] at A; exact A.elim
  | some x' =>
    rw [q] at A
    cases x' with
    | lst xs =>
      obtain ⟨a, vs, rfl, h1, d1⟩ := lst_of ok hx q
      exact sl_list pins s σ _ _ v vl vu lo hi sl Q I rx hs pl pu ⟨a, vs, rfl, .of h1, fun p hp => AnsV.newL A ok (d1.cut lo hi) p hp⟩
    | tup xs =>
      obtain ⟨a, vs, rfl, h1, k1, d1⟩ := tup_of ok hx q
      refine sl_tupA pins s σ _ _ v vl vu lo hi sl Q I rx hs pl pu ⟨a, vs, rfl, h1, fun e => ?_, fun _ p hp => AnsV.newT A ok (d1.cut lo hi) p hp⟩
      have e2 : cutV vs lo hi = vs := by
        unfold cutV
        rw [e.1, e.2]
        simp
      have d2 := d1.cut lo hi
      rw [e2] at d2
      exact AnsV.here (d := .tup (cut xs lo hi)) A ok (.tup k1 d2)
    | _ => exact A.elim

/-! ## built-in functions -/
def Rp (K : PySem.W.Frag) (p : Prim) : List V → Hp → VK → Prop := fun vs H Q => ∃ S ds, S.H = H ∧ OkS K S ∧ DenA K S.I S.L vs ds ∧ AnsR K S (prim p ds S.w) Q
/-- the value that is called -/
inductive PrimV : Prim → Str → Value → Prop
  | len : PrimV .len "len" (.builtin "len")
  | min2 : PrimV .min2 "min" (.builtin "min")
  | max2 : PrimV .max2 "max" (.builtin "max")
  | min1 : PrimV .min1 "min" (.builtin "min")
  | max1 : PrimV .max1 "max" (.builtin "max")
  | abs : PrimV .abs "abs" (.builtin "abs")
  | sum : PrimV .sum "sum" (.builtin "sum")
  | any : PrimV .any "any" (.builtin "any")
  | all : PrimV .all "all" (.builtin "all")
  | list : PrimV .list "list" (.type "list")
  | listC : PrimV .listC "list" (.type "list")
  | tuple : PrimV .tuple "tuple" (.type "tuple")
  | rng1 : PrimV .rng1 "range" (.type "range")
theorem den1 {K : PySem.W.Frag} {I : Hp} {L : List Addr} {vs : List V} {d : D} (h : DenA K I L vs [d]) : ∃ v, vs = [v] ∧ Den K I L v d := by
  cases h with
  | cons h1 h2 => cases h2; exact ⟨_, rfl, h1⟩
theorem den2 {K : PySem.W.Frag} {I : Hp} {L : List Addr} {vs : List V} {d e : D} (h : DenA K I L vs [d, e]) : ∃ v u, vs = [v, u] ∧ Den K I L v d ∧ Den K I L u e := by
  cases h with
  | cons h1 h2 =>
    obtain ⟨u, rfl, h3⟩ := den1 h2
    exact ⟨_, u, rfl, h1, h3⟩
theorem den_int {K : PySem.W.Frag} {I : Hp} {L : List Addr} {v : V} {i : Int} (h : Den K I L v (.int i)) : v = .int i := by cases h; rfl
theorem minL_spec : ∀ (ns : List Int) (m : Int), (minL m ns = m ∨ minL m ns ∈ ns) ∧ minL m ns ≤ m ∧ ∀ y ∈ ns, minL m ns ≤ y
  | [], m => ⟨.inl rfl, Int.le_refl _, fun y h => by cases h⟩
  | x :: xs, m => by
    have h1 := minL_spec xs (if x < m then x else m)
    show (minL (if x < m then x else m) xs = m ∨ minL (if x < m then x else m) xs ∈ x :: xs) ∧ minL (if x < m then x else m) xs ≤ m ∧ ∀ y ∈ x :: xs, minL (if x < m then x else m) xs ≤ y
    obtain ⟨a, b, c⟩ := h1
    by_cases hx : x < m
    · rw [if_pos hx] at a b c ⊢
      refine ⟨.inr (a.elim (fun e => by rw [e]; exact List.mem_cons_self) fun e => List.mem_cons_of_mem _ e), by omega, fun y hy => ?_⟩
      rcases List.mem_cons.mp hy with rfl | hy
      · exact b
      · exact c y hy
    · rw [if_neg hx] at a b c ⊢
      refine ⟨a.imp id fun e => List.mem_cons_of_mem _ e, b, fun y hy => ?_⟩
      rcases List.mem_cons.mp hy with rfl | hy
      · omega
      · exact c y hy
theorem maxL_spec : ∀ (ns : List Int) (m : Int), (maxL m ns = m ∨ maxL m ns ∈ ns) ∧ m ≤ maxL m ns ∧ ∀ y ∈ ns, y ≤ maxL m ns
  | [], m => ⟨.inl rfl, Int.le_refl _, fun y h => by cases h⟩
  | x :: xs, m => by
    have h1 := maxL_spec xs (if m < x then x else m)
    show (maxL (if m < x then x else m) xs = m ∨ maxL (if m < x then x else m) xs ∈ x :: xs) ∧ m ≤ maxL (if m < x then x else m) xs ∧ ∀ y ∈ x :: xs, y ≤ maxL (if m < x then x else m) xs
    obtain ⟨a, b, c⟩ := h1
    by_cases hx : m < x
    · rw [if_pos hx] at a b c ⊢
      refine ⟨.inr (a.elim (fun e => by rw [e]; exact List.mem_cons_self) fun e => List.mem_cons_of_mem _ e), by omega, fun y hy => ?_⟩
      rcases List.mem_cons.mp hy with rfl | hy
      · exact b
      · exact c y hy
    · rw [if_neg hx] at a b c ⊢
      refine ⟨a.imp id fun e => List.mem_cons_of_mem _ e, b, fun y hy => ?_⟩
      rcases List.mem_cons.mp hy with rfl | hy
      · omega
      · exact c y hy
theorem minL_is {ns : List Int} {n m : Int} (h1 : m ∈ n :: ns) (h2 : ∀ y, y ∈ n :: ns → m ≤ y) : m = minL n ns := by
  obtain ⟨a, b, c⟩ := minL_spec ns n
  have hm : minL n ns ∈ n :: ns := a.elim (fun e => by rw [e]; exact List.mem_cons_self) fun e => List.mem_cons_of_mem _ e
  have l1 := h2 _ hm
  have l2 : minL n ns ≤ m := by
    rcases List.mem_cons.mp h1 with e | e
    · rw [e]; exact b
    · exact c m e
  omega
theorem maxL_is {ns : List Int} {n m : Int} (h1 : m ∈ n :: ns) (h2 : ∀ y, y ∈ n :: ns → y ≤ m) : m = maxL n ns := by
  obtain ⟨a, b, c⟩ := maxL_spec ns n
  have hm : maxL n ns ∈ n :: ns := a.elim (fun e => by rw [e]; exact List.mem_cons_self) fun e => List.mem_cons_of_mem _ e
  have l1 := h2 _ hm
  have l2 : m ≤ maxL n ns := by
    rcases List.mem_cons.mp h1 with e | e
    · rw [e]; exact b
    · exact c m e
  omega
theorem list_val {K : PySem.W.Frag} {S : Sit} {x : V} {d : D} {xs : List D} (ok : OkS K S) (h : Den K S.I S.L x d) (e : listD d S.w = some xs) : ∃ p vs, x = .ref p ∧ (SqL K S.H p vs ∨ SqT K S.H p vs) ∧ DenA K S.I S.L vs xs := by
  unfold listD at e
  cases q : dr S.w d with
  | none => rw [q] at e; cases e
  | some x' =>
    rw [q] at e
    cases x' with
    | lst ys =>
      cases e
      obtain ⟨a, vs, rfl, h1, d1⟩ := lst_of ok h q
      exact ⟨a, vs, rfl, .inl (.of h1), d1⟩
    | tup ys =>
      cases e
      obtain ⟨a, vs, rfl, h1, _, d1⟩ := tup_of ok h q
      exact ⟨a, vs, rfl, .inr h1, d1⟩
    | scr ns =>
      cases e
      obtain ⟨a, rfl, h1⟩ := scr_of ok h q
      exact ⟨a, _, rfl, .inl h1, DenA.ofInts ns⟩
    | _ => cases e
theorem lenD_list {d : D} {w : Wd} : lenD d w = (listD d w).map (·.length) := by
  unfold lenD listD
  cases dr w d with
  | none => rfl
  | some x' => cases x' <;> simp
theorem prim_ints {K : PySem.W.Frag} {S : Sit} {x : V} {d : D} {xs : List D} {ns : List Int} (ok : OkS K S) (h : Den K S.I S.L x d) (q : dr S.w d = some (.lst xs)) (e : intsOf xs = some ns) : ∃ a, x = .ref a ∧ SqL K S.H a (ns.map V.int) := by
  obtain ⟨a, vs, rfl, h1, d1⟩ := lst_of ok h q
  rw [d1.ints e] at h1
  exact ⟨a, rfl, .of h1⟩
theorem call_rng1 (hc : X.calm = true) : CallR X (.type "range") (fun vs H Q => ∃ j, vs = [.int j] ∧ ∀ p, H p = none → Q (.ref p) (upd H p (.rng 0 j))) := by
  intro pins s σ H xs us Q I r ⟨j, e, q⟩
  subst e
  obtain ⟨u, rfl, t, rfl⟩ := vals1 r
  refine call_range_1 ?_
  have hn : H s.heap.objs.size = none := I.hok.fresh (Nat.le_refl _)
  exact ⟨.ref s.heap.objs.size, _, I.laid (o := .rng 0 j) (fun b o e => Heap.get?_push_of_some _ e) (Nat.le_refl _) ⟨_, _, _, Heap.get?_push_size s.heap rfl⟩, rfl, q _ hn⟩
theorem call_prim (hc : X.calm = true) {p : Prim} {nm : Str} {f : Value} (hp : PrimV p nm f) : CallR X f (Rp X.K p) := by
  intro pins s σ H vs us Q I r ⟨S, ds, hH, ok, hd, A⟩
  subst hH
  cases hp with
  | len =>
    match ds, hd, A with
    | [d], hd, A =>
      obtain ⟨x, rfl, hx⟩ := den1 hd
      have A : AnsV X.K S ((lenD d S.w).map fun n => .int n) Q := AnsR.of A
      rw [lenD_list] at A
      cases e : listD d S.w with
      | none => rw [e] at A; exact A.elim
      | some xs =>
        rw [e] at A
        obtain ⟨p, ws, rfl, hq, dd⟩ := list_val ok hx e
        refine call_len_seq pins s σ _ _ us Q I r ⟨p, ws, rfl, hq, ?_⟩
        rw [dd.length]
        exact AnsV.here (d := .int xs.length) A ok (.int _)
    | [], _, A => exact A.elim
    | _ :: _ :: _, _, A => exact A.elim
  | min2 =>
    match ds, hd, A with
    | [.int i, .int j], hd, A =>
      obtain ⟨x, y, rfl, hx, hy⟩ := den2 hd
      cases den_int hx
      cases den_int hy
      refine call_min2 hc pins s σ _ _ us Q I r ⟨i, j, rfl, ?_⟩
      exact A _ S (.refl S) ok rfl (.int _)
  | max2 =>
    match ds, hd, A with
    | [.int i, .int j], hd, A =>
      obtain ⟨x, y, rfl, hx, hy⟩ := den2 hd
      cases den_int hx
      cases den_int hy
      refine call_max2 hc pins s σ _ _ us Q I r ⟨i, j, rfl, ?_⟩
      exact A _ S (.refl S) ok rfl (.int _)
  | min1 =>
    match ds, hd, A with
    | [d], hd, A =>
      obtain ⟨x, rfl, hx⟩ := den1 hd
      have A : AnsR X.K S (match dr S.w d with
        | some (.lst xs) => match intsOf xs with
          | some (m :: ns) => .ok (.int (minL m ns)) S.w
          | _ => .stk
        | _ => .stk) Q := A
      cases q : dr S.w d with
      | none => rw [q] at A; exact A.elim
      | some x' =>
        rw [q] at A
        cases x' with
        | lst xs =>
          dsimp only at A
          cases e : intsOf xs with
          | none => rw [e] at A; exact A.elim
          | some ns =>
            rw [e] at A
            cases ns with
            | nil => exact A.elim
            | cons n ns =>
              obtain ⟨a, rfl, hq⟩ := prim_ints ok hx q e
              refine cr_min hc pins s σ _ _ us Q I r ⟨a, n :: ns, rfl, hq, Nat.succ_pos _, fun m h1 h2 => ?_⟩
              rw [minL_is h1 h2]
              exact A _ S (.refl S) ok rfl (.int _)
        | _ => exact A.elim
    | [], _, A => exact A.elim
    | _ :: _ :: _, _, A => exact A.elim
  | max1 =>
    match ds, hd, A with
    | [d], hd, A =>
      obtain ⟨x, rfl, hx⟩ := den1 hd
      have A : AnsR X.K S (match dr S.w d with
        | some (.lst xs) => match intsOf xs with
          | some (m :: ns) => .ok (.int (maxL m ns)) S.w
          | _ => .stk
        | _ => .stk) Q := A
      cases q : dr S.w d with
      | none => rw [q] at A; exact A.elim
      | some x' =>
        rw [q] at A
        cases x' with
        | lst xs =>
          dsimp only at A
          cases e : intsOf xs with
          | none => rw [e] at A; exact A.elim
          | some ns =>
            rw [e] at A
            cases ns with
            | nil => exact A.elim
            | cons n ns =>
              obtain ⟨a, rfl, hq⟩ := prim_ints ok hx q e
              refine cr_max hc pins s σ _ _ us Q I r ⟨a, n :: ns, rfl, hq, Nat.succ_pos _, fun m h1 h2 => ?_⟩
              rw [maxL_is h1 h2]
              exact A _ S (.refl S) ok rfl (.int _)
        | _ => exact A.elim
    | [], _, A => exact A.elim
    | _ :: _ :: _, _, A => exact A.elim
  | abs =>
    match ds, hd, A with
    | [.int i], hd, A =>
      obtain ⟨x, rfl, hx⟩ := den1 hd
      cases den_int hx
      refine call_abs pins s σ _ _ us Q I r ⟨i, rfl, ?_⟩
      exact A _ S (.refl S) ok rfl (.int _)
  | sum =>
    match ds, hd, A with
    | [d], hd, A =>
      obtain ⟨x, rfl, hx⟩ := den1 hd
      have A : AnsR X.K S (match dr S.w d with
        | some (.lst xs) => .of ((intsOf xs).map fun ns => .int ns.sum) S.w
        | _ => .stk) Q := A
      cases q : dr S.w d with
      | none => rw [q] at A; exact A.elim
      | some x' =>
        rw [q] at A
        cases x' with
        | lst xs =>
          dsimp only at A
          cases e : intsOf xs with
          | none => rw [e] at A; exact A.elim
          | some ns =>
            rw [e] at A
            obtain ⟨a, rfl, hq⟩ := prim_ints ok hx q e
            refine cr_sum hc pins s σ _ _ us Q I r ⟨a, ns, rfl, hq, ?_⟩
            exact A _ S (.refl S) ok rfl (.int _)
        | _ => exact A.elim
    | [], _, A => exact A.elim
    | _ :: _ :: _, _, A => exact A.elim
  | any =>
    match ds, hd, A with
    | [d], hd, A =>
      obtain ⟨x, rfl, hx⟩ := den1 hd
      have A : AnsR X.K S (match dr S.w d with
        | some (.lst xs) => .of ((blsOf xs).map fun bs => .bl (bs.any id)) S.w
        | _ => .stk) Q := A
      cases q : dr S.w d with
      | none => rw [q] at A; exact A.elim
      | some x' =>
        rw [q] at A
        cases x' with
        | lst xs =>
          dsimp only at A
          cases e : blsOf xs with
          | none => rw [e] at A; exact A.elim
          | some bs =>
            rw [e] at A
            obtain ⟨a, ws, rfl, h1, d1⟩ := lst_of ok hx q
            rw [d1.bls e] at h1
            refine cr_any hc pins s σ _ _ us Q I r ⟨a, bs, rfl, .of h1, ?_⟩
            exact A _ S (.refl S) ok rfl (.bl _)
        | _ => exact A.elim
    | [], _, A => exact A.elim
    | _ :: _ :: _, _, A => exact A.elim
  | all =>
    match ds, hd, A with
    | [d], hd, A =>
      obtain ⟨x, rfl, hx⟩ := den1 hd
      have A : AnsR X.K S (match dr S.w d with
        | some (.lst xs) => .of ((blsOf xs).map fun bs => .bl (bs.all id)) S.w
        | _ => .stk) Q := A
      cases q : dr S.w d with
      | none => rw [q] at A; exact A.elim
      | some x' =>
        rw [q] at A
        cases x' with
        | lst xs =>
          dsimp only at A
          cases e : blsOf xs with
          | none => rw [e] at A; exact A.elim
          | some bs =>
            rw [e] at A
            obtain ⟨a, ws, rfl, h1, d1⟩ := lst_of ok hx q
            rw [d1.bls e] at h1
            refine cr_all hc pins s σ _ _ us Q I r ⟨a, bs, rfl, .of h1, ?_⟩
            exact A _ S (.refl S) ok rfl (.bl _)
        | _ => exact A.elim
    | [], _, A => exact A.elim
    | _ :: _ :: _, _, A => exact A.elim
  | list =>
    match ds, hd, A with
    | [d], hd, A =>
      obtain ⟨x, rfl, hx⟩ := den1 hd
      have A : AnsV X.K S ((listD d S.w).map .lst) Q := AnsR.of A
      cases e : listD d S.w with
      | none => rw [e] at A; exact A.elim
      | some xs =>
        rw [e] at A
        obtain ⟨p, ws, rfl, hq, dd⟩ := list_val ok hx e
        exact call_list_of pins s σ _ _ us Q I r ⟨p, ws, rfl, hq, fun l hl => AnsV.newL A ok dd l hl⟩
    | [], _, A => exact A.elim
    | _ :: _ :: _, _, A => exact A.elim
  | listC =>
    match ds, hd, A with
    | [d], hd, A =>
      obtain ⟨x, rfl, hx⟩ := den1 hd
      have A : AnsR X.K S (match listD d S.w with
        | some xs => .ok (.loc S.w.length) (S.w ++ [.lst xs])
        | none => .stk) Q := A
      cases e : listD d S.w with
      | none => rw [e] at A; exact A.elim
      | some xs =>
        rw [e] at A
        obtain ⟨p, ws, rfl, hq, dd⟩ := list_val ok hx e
        refine call_list_of pins s σ _ _ us Q I r ⟨p, ws, rfl, hq, fun l hl => ?_⟩
        refine A (.ref l) (S.cell l (.lst ws) (.lst xs)) (step_cell ok hl) (ok_cell ok hl dd) rfl (.loc ?_)
        show (S.L ++ [l])[S.w.length]? = some l
        rw [← ok.len, List.getElem?_append_right (Nat.le_refl _)]; simp
    | [], _, A => exact A.elim
    | _ :: _ :: _, _, A => exact A.elim
  | tuple =>
    match ds, hd, A with
    | [d], hd, A =>
      obtain ⟨x, rfl, hx⟩ := den1 hd
      have A : AnsR X.K S (match dr S.w d with
        | some (.lst xs) => .ok (.tup xs) S.w
        | some (.tup xs) => .ok (.tup xs) S.w
        | _ => .stk) Q := A
      cases q : dr S.w d with
      | none => rw [q] at A; exact A.elim
      | some x' =>
        rw [q] at A
        cases x' with
        | lst xs =>
          obtain ⟨a, ws, rfl, h1, d1⟩ := lst_of ok hx q
          exact call_tuple_of pins s σ _ _ us Q I r ⟨a, ws, rfl, .inl ⟨.of h1, fun l hl => AnsV.newT A ok d1 l hl⟩⟩
        | tup xs =>
          obtain ⟨a, ws, rfl, h1, k1, d1⟩ := tup_of ok hx q
          exact call_tuple_of pins s σ _ _ us Q I r ⟨a, ws, rfl, .inr ⟨h1, AnsV.here (d := .tup xs) A ok (.tup k1 d1)⟩⟩
        | _ => exact A.elim
    | [], _, A => exact A.elim
    | _ :: _ :: _, _, A => exact A.elim
  | rng1 =>
    match ds, hd, A with
    | [.int j], hd, A =>
      obtain ⟨x, rfl, hx⟩ := den1 hd
      cases den_int hx
      refine call_rng1 hc pins s σ _ _ us Q I r ⟨j, rfl, fun p hp => ?_⟩
      exact A (.ref p) (S.new p (.rng 0 j)) (step_new ok hp) (ok_new ok hp) rfl (.rng (show upd S.I p (.rng 0 j) p = _ from upd_same))

/-! ## isinstance -/
def Ty.nm : Ty → String
  | .int => "int"
  | .str => "str"
  | .bool => "bool"
  | .tuple => "tuple"
  | .list => "list"
def Ris (K : PySem.W.Frag) (t : Ty) : List V → Hp → VK → Prop := fun vs H Q => ∃ S d v, S.H = H ∧ OkS K S ∧ vs = [v, .ty t.nm] ∧ Den K S.I S.L v d ∧ AnsV K S ((isi t d).map .bl) Q
theorem call_is (t : Ty) : CallR X (.builtin "isinstance") (Ris X.K t) := by
  intro pins s σ H vs us Q I r ⟨S, d, v, hH, ok, e, hd, A⟩
  subst hH e
  obtain ⟨b, hb, q⟩ := ansMap A ok
  refine call_isi pins s σ _ _ us Q I r ?_
  have cl : ClsV (.ty t.nm) (.type t.nm) := .ty _
  cases hd with
  | non =>
    refine ⟨_, _, .type "NoneType", _, b, rfl, cl, .base .non, kit_ty ?_, q⟩
    cases t <;> (cases hb; decide +kernel)
  | bl x =>
    refine ⟨_, _, .type "bool", _, b, rfl, cl, .base (.bl x), kit_ty ?_, q⟩
    cases t <;> (cases hb; decide +kernel)
  | int i =>
    refine ⟨_, _, .type "int", _, b, rfl, cl, .base (.int i), kit_ty ?_, q⟩
    cases t <;> (cases hb; decide +kernel)
  | str x hx =>
    refine ⟨_, _, .type "str", _, b, rfl, cl, .base (.str x), kit_ty ?_, q⟩
    cases t <;> (cases hb; decide +kernel)
  | @tup a vs ds ht hs =>
    have ht : SqT X.K S.H a vs := Same_seqT ok.sub ht
    have tx : TyX X.K S.H (.ref a) (.type "tuple") := by
      rcases ht with (h | ⟨o, h⟩) | ⟨o, its, n, h1, h2, _⟩
      · exact .base (.tup h)
      · exact .fTuple h
      · exact .kTuple h1 h2
    refine ⟨_, _, .type "tuple", _, b, rfl, cl, tx, kit_ty ?_, q⟩
    cases t <;> (cases hb; decide +kernel)
  | lst hl hs =>
    refine ⟨_, _, .type "list", _, b, rfl, cl, .base (.lst (ok.sub _ _ hl)), kit_ty ?_, q⟩
    cases t <;> (cases hb; decide +kernel)
  | scr _ => cases t <;> cases hb
  | rng _ => cases t <;> cases hb
  | loc _ => cases t <;> cases hb
  | dct _ _ _ => cases t <;> cases hb

/-! ## methods -/
def Rm (K : PySem.W.Frag) (m : Mth) : V → List V → Hp → VK → Prop := fun x vs H Q => ∃ S dx ds, S.H = H ∧ OkS K S ∧ Den K S.I S.L x dx ∧ DenA K S.I S.L vs ds ∧ AnsR K S (meth m dx ds S.w) Q
theorem mt_app : MtM X "list.append" (Rm X.K .append) := by
  intro pins s σ H x vs v us Q I rx r ⟨S, dx, ds, hH, ok, hx, hd, A⟩
  subst hH
  match ds, hd, A with
  | [d], hd, A =>
    obtain ⟨y, rfl, hy⟩ := den1 hd
    cases hx with
    | @loc a n hl =>
      have A : AnsR X.K S (match S.w[n]? with
        | some (.lst xs) => if xs.length < line then .ok .non (S.w.set n (.lst (xs ++ [d]))) else .stk
        | _ => .stk) Q := A
      cases q : S.w[n]? with
      | none => rw [q] at A; exact A.elim
      | some c =>
        rw [q] at A
        cases c with
        | lst xs =>
          have A : AnsR X.K S (if xs.length < line then .ok .non (S.w.set n (.lst (xs ++ [d]))) else .stk) Q := A
          by_cases hz : xs.length < line
          · rw [if_pos hz] at A
            have nd : Cell.lst xs ≠ .dead := fun z => nomatch z
            obtain ⟨b, hb, _, cr⟩ := ok.cell n _ q nd
            rw [hl] at hb; cases hb
            cases cr with
            | lst e1 hs =>
              have hs2 := hs.append (.cons hy .nil)
              refine mt_append pins s σ _ _ _ v us Q I rx r ⟨_, _, y, rfl, rfl, e1, by rw [← line_eq, hs.length]; exact hz, ?_⟩
              exact A .non (S.put n a (.lst _) (.lst (xs ++ [d]))) (step_put q nd hl) (ok_put ok q nd hl hs2) rfl .non
          · rw [if_neg hz] at A; exact A.elim
        | _ => exact A.elim
    | _ => exact A.elim
  | [], _, A => exact A.elim
  | _ :: _ :: _, _, A => exact A.elim
theorem idxD_spec {x : D} : ∀ {ys : List D} {j : Nat}, idxD x ys = some j → (∃ z, ys[j]? = some z ∧ deq z x = true) ∧ ∀ m z, m < j → ys[m]? = some z → deq z x = false
  | [], _, h => by cases h
  | y :: ys, j, h => by
    have h : (if deq y x = true then some 0 else (idxD x ys).map (· + 1)) = some j := h
    by_cases hy : deq y x = true
    · rw [if_pos hy] at h
      cases h
      exact ⟨⟨y, rfl, hy⟩, fun m z hm => absurd hm (Nat.not_lt_zero _)⟩
    · rw [if_neg hy] at h
      cases q : idxD x ys with
      | none => rw [q] at h; cases h
      | some i =>
        rw [q] at h
        cases h
        obtain ⟨⟨z, h1, h2⟩, h3⟩ := idxD_spec q
        refine ⟨⟨z, by simpa using h1, h2⟩, fun m z hm hz => ?_⟩
        cases m with
        | zero =>
          have e : y = z := by simpa using hz
          rw [← e]
          simpa using hy
        | succ m => exact h3 m z (Nat.lt_of_succ_lt_succ hm) (by simpa using hz)
theorem pds_get : ∀ {ys : List D} {n j : Nat} {z : D}, pds ys = some n → ys[j]? = some z → ∃ m, pd z = some m
  | [], _, _, _, _, h => by simp at h
  | y :: ys, _, 0, z, h, e => by
    obtain ⟨a, b, e1, e2, _⟩ := pds_cons h
    have : y = z := by simpa using e
    rw [← this]; exact ⟨a, e1⟩
  | y :: ys, _, j + 1, z, h, e => by
    obtain ⟨a, b, e1, e2, _⟩ := pds_cons h
    exact pds_get e2 (by simpa using e)
theorem mt_idx (hu : X.A.units + 65 < cLine) : MtR X "list.index" (Rm X.K .index) := by
  intro pins s σ H x vs v us Q I rx r ⟨S, dx, ds, hH, ok, hx, hd, A⟩
  subst hH
  match ds, hd, A with
  | [d], hd, A =>
    obtain ⟨y, rfl, hy⟩ := den1 hd
    have A : AnsR X.K S (match dr S.w dx with
      | some (.lst xs) => match memD d xs with
        | some _ => .of ((idxD d xs).map fun j => .int j) S.w
        | none => .stk
      | _ => .stk) Q := A
    cases q : dr S.w dx with
    | none => rw [q] at A; exact A.elim
    | some x' =>
      rw [q] at A
      cases x' with
      | lst xs =>
        dsimp only at A
        cases q2 : memD d xs with
        | none => rw [q2] at A; exact A.elim
        | some c =>
          rw [q2] at A
          have A : AnsV X.K S ((idxD d xs).map fun j => .int j) Q := AnsR.of A
          cases q3 : idxD d xs with
          | none => rw [q3] at A; exact A.elim
          | some j =>
            rw [q3] at A
            obtain ⟨a, ws, rfl, h1, d1⟩ := lst_of ok hx q
            obtain ⟨m, n, e1, e2, l1, l2, _⟩ := memD_some q2
            obtain ⟨p1, p2, p3⟩ := dp_of ok.sub hy e1
            obtain ⟨r1, r2, r3⟩ := dps_of ok.sub d1 e2
            have sy : SeqAt.shaped (.list (toPys xs)) = true := by
              show (PyData.canLay0 (.list (toPys xs)) && decide (PyData.depth (.list (toPys xs)) ≤ 64)) = true
              rw [PyData.canLay0, PyData.depth, r2, r3, decide_eq_true (by omega)]; rfl
            obtain ⟨⟨z, hz, hzd⟩, hno⟩ := idxD_spec q3
            have at_ : ∀ (k : Nat) (z' : PyData), (toPys xs)[k]? = some z' → ∃ z0, xs[k]? = some z0 ∧ z' = toPy z0 := by
              intro k z' hk
              rw [toPys_map, List.getElem?_map] at hk
              cases hq : xs[k]? with
              | none => rw [hq] at hk; cases hk
              | some z0 => rw [hq] at hk; exact ⟨z0, rfl, (Option.some.inj hk).symm⟩
            obtain ⟨mz, hmz⟩ := pds_get e2 hz
            refine mt_indexD hu pins s σ _ _ _ v us Q I rx r ⟨a, y, toPy d, toPys xs, j, toPy z, rfl, rfl, .lst (.of h1) r1, p1, sy, shaped_of p2 p3 l1, ?_, ?_, ?_, AnsV.here (d := .int j) A ok (.int _)⟩
            · rw [toPys_map, List.getElem?_map, hz]; rfl
            · rw [eqv_of hmz e1]; exact hzd
            · intro k z' hk hz'
              obtain ⟨z0, h0, rfl⟩ := at_ k z' hz'
              obtain ⟨m0, hm0⟩ := pds_get e2 h0
              rw [eqv_of hm0 e1]; exact hno k z0 hk h0
      | _ => exact A.elim
  | [], _, A => exact A.elim
  | _ :: _ :: _, _, A => exact A.elim
end
end Ir
/-! # does a text have this form? (a check, decided by the kernel) -/
namespace Ir
open PySem PySem.Spec PyProof.Rows L2

inductive GK where | fn (f : Nat) | cst (d : D) | cls (c : Nat) | free
/-- where a text stands: its scope, its slots' names, the module's names, the names whose cells are its own -/
structure MC where
  sc : Scope
  N : List Str
  tab : List (Str × GK)
  fn : Str → Bool
mutual
def beqD : D → D → Bool
  | .non, .non => true
  | .bl a, .bl b => a == b
  | .int i, .int j => decide (i = j)
  | .str x, .str y => decide (x = y)
  | .lst xs, .lst ys => beqDs xs ys
  | .tup xs, .tup ys => beqDs xs ys
  | _, _ => false
def beqDs : List D → List D → Bool
  | [], [] => true
  | x :: xs, y :: ys => beqD x y && beqDs xs ys
  | _, _ => false
end
mutual
theorem beqD_eq : ∀ {a b : D}, beqD a b = true → a = b
  | .non, b, h => by cases b <;> first | rfl | exact absurd h Bool.false_ne_true
  | .bl x, b, h => by
    cases b with
    | bl y => rw [beqD, beq_iff_eq] at h; rw [h]
    | _ => exact absurd h Bool.false_ne_true
  | .int x, b, h => by
    cases b with
    | int y => rw [beqD, decide_eq_true_eq] at h; rw [h]
    | _ => exact absurd h Bool.false_ne_true
  | .str x, b, h => by
    cases b with
    | str y => rw [beqD, decide_eq_true_eq] at h; rw [h]
    | _ => exact absurd h Bool.false_ne_true
  | .tup xs, b, h => by
    cases b with
    | tup y => rw [beqD] at h; rw [beqDs_eq h]
    | _ => exact absurd h Bool.false_ne_true
  | .lst xs, b, h => by
    cases b with
    | lst y => rw [beqD] at h; rw [beqDs_eq h]
    | _ => exact absurd h Bool.false_ne_true
  | .scr _, b, h => by cases b <;> exact absurd h Bool.false_ne_true
  | .dct _ _, b, h => by cases b <;> exact absurd h Bool.false_ne_true
  | .set _, b, h => by cases b <;> exact absurd h Bool.false_ne_true
  | .rng _ _, b, h => by cases b <;> exact absurd h Bool.false_ne_true
  | .exc _, b, h => by cases b <;> exact absurd h Bool.false_ne_true
  | .loc _, b, h => by cases b <;> exact absurd h Bool.false_ne_true
theorem beqDs_eq : ∀ {a b : List D}, beqDs a b = true → a = b
  | [], b, h => by
    cases b with
    | nil => rfl
    | cons _ _ => rw [beqDs] at h <;> first | exact absurd h Bool.false_ne_true | (intros; simp_all)
  | x :: xs, b, h => by
    cases b with
    | nil => rw [beqDs] at h <;> first | exact absurd h Bool.false_ne_true | (intros; simp_all)
    | cons y ys =>
      rw [beqDs, Bool.and_eq_true] at h
      rw [beqD_eq h.1, beqDs_eq h.2]
end
def visB (sc : Scope) (x : Str) : Bool := match sc.names.lookup x with
  | some .local => true
  | some .cell => true
  | some .free => true
  | _ => false
def glB (sc : Scope) (x : Str) : Bool := sc.names.lookup x == some .globalImplicit
def nmOk (x : Str) : Bool := decide (x ≠ "__debug__") && decide (x ≠ "__classdict__") && decide (x ≠ "__name__")
def fnB (mc : MC) (x : Str) (f : Nat) : Bool := glB mc.sc x && nmOk x && match mc.tab.lookup x with
  | some (.fn g) => f == g
  | _ => false
def freeB (mc : MC) (x : Str) : Bool := glB mc.sc x && nmOk x && match mc.tab.lookup x with
  | some .free => true
  | _ => false
/-- a name that may be stored -/
def stB (mc : MC) (x : Str) : Bool := match mc.sc.names.lookup x with
  | some .local => true
  | some .cell => mc.fn x
  | _ => false
def primN : Prim → Option (Str × Value)
  | .len => some ("len", .builtin "len")
  | .min2 => some ("min", .builtin "min")
  | .max2 => some ("max", .builtin "max")
  | .min1 => some ("min", .builtin "min")
  | .max1 => some ("max", .builtin "max")
  | .abs => some ("abs", .builtin "abs")
  | .sum => some ("sum", .builtin "sum")
  | .any => some ("any", .builtin "any")
  | .all => some ("all", .builtin "all")
  | .list => some ("list", .type "list")
  | .listC => some ("list", .type "list")
  | .tuple => some ("tuple", .type "tuple")
  | .rng1 => some ("range", .type "range")
  | _ => none
def primB (p : Prim) (x : Str) : Bool := match primN p with
  | some q => decide (x = q.1)
  | none => false
def tyN (t : Ty) : Str := match t with
  | .int => "int"
  | .str => "str"
  | .bool => "bool"
  | .tuple => "tuple"
  | .list => "list"
def conB : D → Const → Bool
  | .non, .none => true
  | .bl b, .bool c => b == c
  | .int i, .int j => decide (i = j)
  | .str x, .str y => decide (x = y) && PyData.strOk x
  | _, _ => false
def isCon (d : D) : E → Bool
  | .con e => beqD d e
  | _ => false
mutual
/-- the slots that a target stores -/
def tgS : Tg → List Nat
  | .nm i => [i]
  | .tup ts => tgsS ts
def tgsS : Tgs → List Nat
  | .nil => []
  | .cons t ts => tgS t ++ tgsS ts
end
mutual
def mT (mc : MC) : Tg → Expr → Bool
  | .nm i, e => match e with
    | .Name x _ => decide (mc.N[i]? = some x) && stB mc x
    | _ => false
  | .tup ts, e => match e with
    | .Tuple es _ _ => mTs mc ts es
    | _ => false
def mTs (mc : MC) : Tgs → List Expr → Bool
  | .nil, l => match l with
    | [] => true
    | _ => false
  | .cons t ts, l => match l with
    | e :: es => mT mc t e && mTs mc ts es
    | [] => false
end
/-- a comprehension's block -/
def blkB (mc : MC) (scope : Scope) (own : List Nat) : Bool :=
  (scope.kind == .function) && scope.names.all (fun y => decide (scope.names.lookup y.1 = some y.2)) && own.all (fun i => (mc.N[i]?).isSome) &&
  scope.names.all (fun y => !(y.2 == .free) || decide (mc.sc.names.lookup y.1 = some .cell) || decide (mc.sc.names.lookup y.1 = some .free)) &&
  scope.names.all (fun y => !(y.2 == .local || y.2 == .cell) || (own.any fun i => decide (mc.N[i]? = some y.1)) || decide (y.1 ∉ mc.N))
def blkMC (mc : MC) (scope : Scope) : MC := { sc := relS scope mc.sc, N := mc.N, tab := mc.tab, fn := fun x => scope.names.lookup x == some .cell }
def tupB : Expr → Bool
  | .Tuple .. => true
  | _ => false
/-- what a method is asked of -/
def baseB : Expr → Bool
  | .Call (.Name _ _) [] [] _ => false
  | _ => true
def lineB (a c : Pos) : Bool := a.endLine == c.line
/-- keys that are unlike -/
def nodupK : List D → Bool
  | [] => true
  | k :: ks => ks.all (fun j => !keyE k j) && nodupK ks
/-- a display of plain keys and values -/
def dspB : List D → List D → List (Option Expr) → List Expr → Bool
  | [], [], [], [] => true
  | k :: ks, v :: vs, some (.Constant c _ _) :: es, .Constant d _ _ :: us => keyB k && conB k c && conB v d && dspB ks vs es us
  | _, _, _, _ => false
mutual
def mE (mc : MC) : E → Expr → Bool
  | .var i, e => match e with
    | .Name x _ => decide (mc.N[i]? = some x) && visB mc.sc x && nmOk x
    | _ => false
  | .gl y d, e => match e with
    | .Name x _ => decide (x = y) && glB mc.sc x && nmOk x && match mc.tab.lookup x with
      | some (.cst d') => beqD d d'
      | _ => false
    | _ => false
  | .con d, e => match e with
    | .Constant c _ _ => conB d c
    | _ => false
  | .tup es, e => match e with
    | .Tuple l _ _ => mEs mc es l && decide (l.length ≤ 1000)
    | _ => false
  | .lst es, e => match e with
    | .List l _ => mEs mc es l && decide (l.length ≤ 1000)
    | _ => false
  | .cel es, e => match e with
    | .List l _ => mEs mc es l && decide (l.length ≤ 1000)
    | _ => false
  | .bin o a b, e => match e with
    | .BinOp l op r _ => decide (op = o.py) && mE mc a l && mE mc b r
    | _ => false
  | .neg a, e => match e with
    | .UnaryOp op x _ => decide (op = .USub) && mE mc a x
    | _ => false
  | .nt a, e => match e with
    | .UnaryOp op x _ => decide (op = .Not) && mE mc a x
    | _ => false
  | .and_ a es, e => match e with
    | .BoolOp op l _ => match l with
      | x :: l => decide (op = .And) && mE mc a x && mEs mc es l
      | [] => false
    | _ => false
  | .or_ a es, e => match e with
    | .BoolOp op l _ => match l with
      | x :: l => decide (op = .Or) && mE mc a x && mEs mc es l
      | [] => false
    | _ => false
  | .ite c a b, e => match e with
    | .IfExp t x y _ => mE mc c t && mE mc a x && mE mc b y
    | _ => false
  | .cmp o a b, e => match e with
    | .Compare l ops rs _ => match ops, rs with
      | [op], [r] => decide (op = o.py) && !behindInMarks op r && mE mc a l && mE mc b r
      | _, _ => false
    | _ => false
  | .chain o p a b c, e => match e with
    | .Compare l ops rs _ => match ops, rs with
      | [op, op'], [r, r'] => decide (op = o.py) && decide (op' = p.py) && !behindInMarks op' r' && mE mc a l && mE mc b r && mE mc c r'
      | _, _ => false
    | _ => false
  | .ix a b, e => match e with
    | .Subscript x i _ => mE mc a x && mE mc b i
    | _ => false
  | .slc p q a lo hi, e => match e with
    | .Subscript x i _ => match i with
      | .Slice l u st _ => match st with
        | none => mE mc a x && (match l with
          | none => !p && isCon .non lo
          | some y => p && mE mc lo y) && (match u with
          | none => !q && isCon .non hi
          | some y => q && mE mc hi y)
        | some _ => false
      | _ => false
    | _ => false
  | .rev a, e => match e with
    | .Subscript x i _ => match i with
      | .Slice none none (some (.UnaryOp .USub (.Constant (.int 1) _ _) _)) _ => mE mc a x
      | _ => false
    | _ => false
  | .call f es, e => match e with
    | .Call g l kw _ => match g, kw with
      | .Name x _, [] => fnB mc x f && mEs mc es l
      | _, _ => false
    | _ => false
  | .prim p es, e => match e with
    | .Call g l kw _ => match g, kw with
      | .Name x _, [] => freeB mc x && primB p x && mEs mc es l && !l.isEmpty
      | _, _ => false
    | _ => false
  | .isi t a, e => match e with
    | .Call g l kw _ => match g, kw, l with
      | .Name x _, [], [y, y'] => match y' with
        | .Name z _ => decide (x = "isinstance") && freeB mc x && mE mc a y && decide (z = tyN t) && freeB mc z
        | _ => false
      | _, _, _ => false
    | _ => false
  | .lr1 a, e => match e with
    | .Call g l kw _ => match g, kw, l with
      | .Name x _, [], [y'] => match y' with
        | .Call g' l' kw' _ => match g', kw', l' with
          | .Name z _, [], [y] => decide (x = "list") && freeB mc x && decide (z = "range") && freeB mc z && mE mc a y
          | _, _, _ => false
        | _ => false
      | _, _, _ => false
    | _ => false
  | .lr2 a b, e => match e with
    | .Call g l kw _ => match g, kw, l with
      | .Name x _, [], [y'] => match y' with
        | .Call g' l' kw' _ => match g', kw', l' with
          | .Name z _, [], [y, u] => decide (x = "list") && freeB mc x && decide (z = "range") && freeB mc z && mE mc a y && mE mc b u
          | _, _, _ => false
        | _ => false
      | _, _, _ => false
    | _ => false
  | .meth m a es, e => match e with
    | .Call g l kw pos => match g, kw with
      | .Attribute x name apos, [] => mE mc a x && baseB x && mEs mc es l && lineB apos pos && l.length == 1 && (match m with
        | .append => decide (name = "append")
        | .index => decide (name = "index")
        | _ => false)
      | _, _ => false
    | _ => false
  | .lc _ t it c elt, e => match e with
    | .ListComp elt' gs scope _ => match gs with
      | [⟨tg, iter, ifs, asy⟩] => decide (asy = 0) && mIt mc it (tupB tg) iter && blkB mc scope (tgS t) && mT (blkMC mc scope) t tg && (match ifs with
        | [] => isCon (.bl true) c
        | [i] => mE (blkMC mc scope) c i
        | _ => false) && mE (blkMC mc scope) elt elt'
      | _ => false
    | _ => false
  | .dsp ks vs, e => match e with
    | .Dict es us _ => dspB ks vs es us && nodupK ks && decide (ks.length ≤ 15) && !ks.isEmpty
    | _ => false
def mEs (mc : MC) : Es → List Expr → Bool
  | .nil, l => match l with
    | [] => true
    | _ => false
  | .cons e es, l => match l with
    | x :: l => mE mc e x && mEs mc es l
    | [] => false
def mIt (mc : MC) : It → Bool → Expr → Bool
  | .val e, _, x => mE mc e x
  | .rng es, _, x => match x with
    | .Call g l kw _ => match g, kw with
      | .Name z _, [] => decide (z = "range") && freeB mc z && mEs mc es l && (l.length == 1 || l.length == 2 || l.length == 3)
      | _, _ => false
    | _ => false
  | .enum e, tb, x => match x with
    | .Call g l kw _ => match g, kw, l with
      | .Name z _, [], [y] => tb && decide (z = "enumerate") && freeB mc z && mE mc e y
      | _, _, _ => false
    | _ => false
  | .zip a b, tb, x => match x with
    | .Call g l kw _ => match g, kw, l with
      | .Name z _, [], [y, y'] => tb && decide (z = "zip") && freeB mc z && mE mc a y && mE mc b y'
      | _, _, _ => false
    | _ => false
end
end Ir
/-! # the expressions keep to the evaluator: answers, targets, what is walked -/
namespace Ir
open PySem PySem.Spec PyProof.Rows L2

structure Glb where
  P : Program
  w : World
  K : PySem.W.Frag
  mg : Str → Option Value
  base : Heap
  F : Nat → List D → Wd → Res D
  fa : Nat → Addr
  ca : Nat → Addr
  tab : List (Str × GK)

section
variable (G : Glb)
def dn (S : Sit) (v : V) (d : D) : Prop := Den G.K S.I S.L v d
def dna (S : Sit) (vs : List V) (ds : List D) : Prop := DenA G.K S.I S.L vs ds
/-- what follows an answer; W: what is wished of an exception -/
def Ans {α β : Type} (W : WX) (Rl : Sit → β → α → Prop) (S : Sit) (σ : L2.St) (r : Res α) (Q : β → Hp → Prop) : Prop := match r with
  | .ok d w => ∀ v S', Step S S' → OkS G.K S' → S'.w = w → Rl S' v d → Q v S'.H
  | .exc c w => ∀ S', Step S S' → OkS G.K S' → S'.w = w → W (.ref (G.ca c)) none σ S'.H
  | .stk => False
/-- the slots stand for the names -/
def Mt (S : Sit) (ρ : Env) (σ : L2.St) : Prop := ρ.length = σ.length ∧ ∀ (i : Nat) d, ρ[i]? = some (some d) → ∃ v, σ[i]? = some (some v) ∧ dn G S v d
def tG {α β : Type} (W : WX) (Rl : Sit → β → α → Prop) (ev : Env → Wd → Res α) : L2.St → Hp → (β → Hp → Prop) → Prop := fun σ H Q =>
  ∃ S ρ, S.H = H ∧ OkS G.K S ∧ Mt G S ρ σ ∧ Ans G W Rl S σ (ev ρ S.w) Q
def tE (W : WX) (ir : E) : TE := tG G W (dn G) (evE G.F ir)
def tEs (W : WX) (irs : Es) : TA := tG G W (dna G) (evEs G.F irs)
/-- a walk over these items -/
def Wk (S : Sit) (J : L2.It) (ds : List D) : Prop := ∀ S', Step S S' → OkS G.K S' → ∀ i, (∀ d, ds[i]? = some d → J.go i S'.H ∧ ∀ x H', J.yld i S'.H x H' → ∃ S'', Step S' S'' ∧ OkS G.K S'' ∧ S''.w = S'.w ∧ S''.H = H' ∧ dn G S'' x d) ∧
  (ds.length ≤ i → J.stop i S'.H)
def tIt (W : WX) (it : It) : TI := tG G W (Wk G) (evIt G.F it)
end
section
variable {G : Glb} {W : WX} {S S1 : Sit} {σ : L2.St} {ρ : Env}
theorem Mt.step (m : Mt G S ρ σ) (p : Step S S1) : Mt G S1 ρ σ := ⟨m.1, fun i d h => let ⟨v, h1, h2⟩ := m.2 i d h; ⟨v, h1, Den.step h2 p⟩⟩
theorem Ans.step {α β : Type} {Rl : Sit → β → α → Prop} {r : Res α} {Q : β → Hp → Prop} (A : Ans G W Rl S σ r Q) (p : Step S S1) : Ans G W Rl S1 σ r Q := by
  cases r with
  | ok d w => exact fun v S' q ok hw h => A v S' (p.trans q) ok hw h
  | exc c w => exact fun S' q ok hw => A S' (p.trans q) ok hw
  | stk => exact A
theorem Ans.bind {α β α2 β2 : Type} {Rl : Sit → β → α → Prop} {Rl2 : Sit → β2 → α2 → Prop} {r : Res α} {f : α → Wd → Res α2} {Q : β2 → Hp → Prop} {R : β → Hp → Prop} (A : Ans G W Rl2 S σ (r.bind f) Q)
    (k : ∀ d v S1, Step S S1 → OkS G.K S1 → Rl S1 v d → Ans G W Rl2 S1 σ (f d S1.w) Q → R v S1.H) : Ans G W Rl S σ r R := by
  cases r with
  | ok d w =>
    intro v S' q ok hw h
    subst hw
    exact k d v S' q ok h (Ans.step A q)
  | exc c w => exact A
  | stk => exact A
theorem tG.bind {α β α2 β2 : Type} {Rl : Sit → β → α → Prop} {Rl2 : Sit → β2 → α2 → Prop} {ev : Env → Wd → Res α} {f : α → Wd → Res α2} {Q : β2 → Hp → Prop} {R : β → Hp → Prop} (ok : OkS G.K S) (m : Mt G S ρ σ)
    (A : Ans G W Rl2 S σ ((ev ρ S.w).bind f) Q) (k : ∀ d v S1, Step S S1 → OkS G.K S1 → Mt G S1 ρ σ → Rl S1 v d → Ans G W Rl2 S1 σ (f d S1.w) Q → R v S1.H) : tG G W Rl ev σ S.H R :=
  ⟨S, ρ, rfl, ok, m, A.bind fun d v S1 p ok1 h A1 => k d v S1 p ok1 (m.step p) h A1⟩
theorem Ans.of {S : Sit} {o : Option D} {Q : VK} (A : Ans G W (dn G) S σ (.of o S.w) Q) : AnsV G.K S o Q := by
  cases o with
  | none => exact A.elim
  | some d => exact A
theorem Ans.val {S : Sit} {d : D} {Q : VK} (A : Ans G W (dn G) S σ (.ok d S.w) Q) (ok : OkS G.K S) {v : V} (h : dn G S v d) : Q v S.H := A v S (.refl S) ok rfl h
theorem truth_bl {d : D} {b : Bool} (h : truth d = some b) : d = .bl b := by
  cases d with
  | bl c => exact congrArg D.bl (Option.some.inj h)
  | _ => cases h
theorem den_bl {K : PySem.W.Frag} {I : Hp} {L : List Addr} {v : V} {b : Bool} (h : Den K I L v (.bl b)) : v = .bl b := by cases h; rfl
/-- a truth that is asked -/
theorem Ans.truth {α β : Type} {Rl : Sit → β → α → Prop} {d : D} {f : Bool → Res α} {Q : β → Hp → Prop} {r : Res α} (A : Ans G W Rl S σ r Q) (e : r = match Ir.truth d with
    | some b => f b
    | none => .stk) : ∃ b, d = .bl b ∧ Ans G W Rl S σ (f b) Q := by
  subst e
  cases h : Ir.truth d with
  | none => rw [h] at A; exact A.elim
  | some b => rw [h] at A; exact ⟨b, truth_bl h, A⟩
end

/-! ## weaker readings -/
section
variable {X : Cx} {e : Expr} {es : List Expr}
theorem PE.imp {t t' : TE} (h : PE X e t) (k : ∀ σ H Q, t' σ H Q → t σ H Q) : PE X e t' := ⟨fun pins s σ H Q I q => h.run pins s σ H Q I (k _ _ _ q)⟩
theorem PT.imp {t t' : TT} (h : PT X e t) (k : ∀ σ H Q, t' σ H Q → t σ H Q) : PT X e t' := ⟨fun pins s σ H Q I q => h.run pins s σ H Q I (k _ _ _ q)⟩
theorem PW.imp {t t' : TT} (h : PW X e t) (k : ∀ σ H Q, t' σ H Q → t σ H Q) : PW X e t' := ⟨fun wh pins s σ H Q I q => h.run wh pins s σ H Q I (k _ _ _ q)⟩
theorem PA.imp {t t' : TA} (h : PA X es t) (k : ∀ σ H Q, t' σ H Q → t σ H Q) : PA X es t' := ⟨fun pos pins s σ H Q I q => h.run pos pins s σ H Q I (k _ _ _ q)⟩
theorem PI.imp {tg : Expr} {t t' : TI} (h : PI X tg e t) (k : ∀ σ H Q, t' σ H Q → t σ H Q) : PI X tg e t' := ⟨fun pins s σ H Q I q => h.run pins s σ H Q I (k _ _ _ q)⟩
theorem PG.imp {t t' : TG} (h : PG X e t) (k : ∀ v σ H Q, t' v σ H Q → t v σ H Q) : PG X e t' := ⟨fun pins s σ H v u Q I r q => h.run pins s σ H v u Q I r (k _ _ _ _ q)⟩
theorem PTs.imp {t t' : TT} (h : PTs X es t) (k : ∀ σ H Q, t' σ H Q → t σ H Q) : PTs X es t' := ⟨fun pins s σ H Q I q => h.run pins s σ H Q I (k _ _ _ q)⟩
end

/-! ## what the text around must be -/
structure Gd (G : Glb) (X : Cx) (mc : MC) (k : Nat) (W : WX) : Prop where
  prog : X.prog = G.P
  w : X.w = G.w
  K : X.K = G.K
  mg : X.mg = G.mg
  base : X.base = G.base
  calm : X.calm = true
  room : Room k X.A
  N : X.N = mc.N
  nd : mc.N.Nodup
  sc : X.env.scope = mc.sc
  fn : ∀ x, mc.fn x = true → X.fn x = true
  takes : Takes X W
  tab : mc.tab = G.tab
/-- a def's promise -/
def spF (G : Glb) (f : Nat) : Sp := fun vs H Q E => ∃ S ds, S.H = H ∧ OkS G.K S ∧ dna G S vs ds ∧ match G.F f ds S.w with
  | .ok d w => ∀ v S', Step S S' → OkS G.K S' → S'.w = w → dn G S' v d → Q v S'.H
  | .exc c w => ∀ S', Step S S' → OkS G.K S' → S'.w = w → E (.ref (G.ca c)) none S'.H
  | .stk => False
structure Gok (G : Glb) (k : Nat) : Prop where
  fns : ∀ x f, G.tab.lookup x = some (.fn f) → G.mg x = some (.ref (G.fa f)) ∧ PySem.W.keepIn G.K (.ref (G.fa f)) = true ∧ ∃ fd ps, Binds G.K fd ps [] ∧ FnOk G.P G.w G.K G.mg G.base (L2.CX G.P G.w) k (G.fa f) fd ps (spF G f)
  csts : ∀ x d, G.tab.lookup x = some (.cst d) → ∃ u v, G.mg x = some u ∧ RelV v u ∧ ∀ I L, Den G.K I L v d
  frees : ∀ x, G.tab.lookup x = some .free → G.mg x = none
section
variable {G : Glb} {X : Cx} {mc : MC} {k : Nat} {W : WX}
theorem Gd.vis (g : Gd G X mc k W) {x : Str} (h : visB mc.sc x = true) : Vis X.env.scope x := by
  unfold visB at h
  unfold Vis
  rw [g.sc]
  cases q : mc.sc.names.lookup x with
  | none => rw [q] at h; exact absurd h Bool.false_ne_true
  | some n => rw [q] at h; cases n <;> simp at h ⊢
theorem Gd.gl (g : Gd G X mc k W) {x : Str} (h : glB mc.sc x = true) : Gl X x := by
  unfold glB at h
  show X.env.scope.names.lookup x = some .globalImplicit
  rw [g.sc]
  exact beq_iff_eq.mp h
theorem nm_debug {x : Str} (h : nmOk x = true) : (x == ("__debug__" : Str)) = false := by
  unfold nmOk at h
  simp only [Bool.and_eq_true, decide_eq_true_eq] at h
  exact beq_eq_false_iff_ne.mpr h.1.1
theorem nm_cd {x : Str} (h : nmOk x = true) : (x == ("__classdict__" : Str)) = false := by
  unfold nmOk at h
  simp only [Bool.and_eq_true, decide_eq_true_eq] at h
  exact beq_eq_false_iff_ne.mpr h.1.2
theorem nm_name {x : Str} (h : nmOk x = true) : x ≠ "__name__" := by
  unfold nmOk at h
  simp only [Bool.and_eq_true, decide_eq_true_eq] at h
  exact h.2
theorem free_of (g : Gd G X mc k W) (ok : Gok G k) {x : Str} (h : freeB mc x = true) : Gl X x ∧ X.mg x = none ∧ nmOk x = true := by
  unfold freeB at h
  simp only [Bool.and_eq_true] at h
  obtain ⟨⟨h1, h2⟩, h3⟩ := h
  refine ⟨g.gl h1, ?_, h2⟩
  rw [g.tab] at h3
  rw [g.mg]
  cases q : G.tab.lookup x with
  | none => rw [q] at h3; exact absurd h3 Bool.false_ne_true
  | some t =>
    rw [q] at h3
    cases t with
    | free => exact ok.frees x q
    | _ => exact absurd h3 Bool.false_ne_true
theorem fn_of' (g : Gd G X mc k W) {x : Str} {f : Nat} (h : fnB mc x f = true) : Gl X x ∧ G.tab.lookup x = some (.fn f) ∧ nmOk x = true := by
  unfold fnB at h
  simp only [Bool.and_eq_true] at h
  obtain ⟨⟨h1, h2⟩, h3⟩ := h
  refine ⟨g.gl h1, ?_, h2⟩
  rw [g.tab] at h3
  cases q : G.tab.lookup x with
  | none => rw [q] at h3; exact absurd h3 Bool.false_ne_true
  | some t =>
    rw [q] at h3
    cases t with
    | fn f' => rw [beq_iff_eq.mp h3]
    | _ => exact absurd h3 Bool.false_ne_true
/-- within a comprehension -/
theorem Gd.blk (g : Gd G X mc k W) (scope : Scope) (s : Shared) (H : Hp) (C : Addr) (cl : List (Str × Addr)) (fp : List Addr) : Gd G (X.blk s H scope (compEnvC scope cl C X.env) fp) (blkMC mc scope) k (fun _ _ _ _ => False) where
  prog := g.prog
  w := g.w
  K := g.K
  mg := g.mg
  base := g.base
  calm := g.calm
  room := g.room
  N := g.N
  nd := g.nd
  sc := by
    show relS scope X.env.scope = relS scope mc.sc
    rw [g.sc]
  fn := fun x h => h
  takes := fun u s' ⟨_, _, _, _, _, _, _, _, _, _, _, _, _, _, _, _, w⟩ => w.elim
  tab := g.tab
end

/-! ## texts' shapes -/
theorem star_of {mc : MC} {ir : E} {e : Expr} (h : mE mc ir e = true) (env : PySem.Env) (rest : List Expr) : starEach (e :: rest) env = (false, eval e env) :: starEach rest env := by
  cases ir <;> cases e <;> first | rfl | exact absurd h Bool.false_ne_true
theorem stars_of {mc : MC} : ∀ {irs : Es} {l : List Expr}, mEs mc irs l = true → ∀ (pos : Pos) (env : PySem.Env), (backTo pos (starEach l env)).any (·.1) = false
  | .nil, l, h, pos, env => by
    cases l with
    | nil => rfl
    | cons _ _ => exact absurd h Bool.false_ne_true
  | .cons e es, l, h, pos, env => by
    cases l with
    | nil => exact absurd h Bool.false_ne_true
    | cons x l =>
      have h : (mE mc e x && mEs mc es l) = true := h
      obtain ⟨h1, h2⟩ := Bool.and_eq_true_iff.mp h
      rw [star_of h1]
      show (false || (backTo pos (starEach l env)).any (·.1)) = false
      rw [stars_of h2]; rfl
theorem plain_ix {mc : MC} {ir : E} {e : Expr} (h : mE mc ir e = true) : PlainIx e := by
  intro o i
  cases ir <;> cases e <;> first | rfl | exact absurd h Bool.false_ne_true
theorem fold_of {mc : MC} {ir : E} {e : Expr} (h : mE mc ir e = true) (env : PySem.Env) (x : Value) : foldedSetIterable e env x = pure x := by
  cases ir <;> cases e <;> first | rfl | exact absurd h Bool.false_ne_true
theorem fold_it {mc : MC} {it : It} {tb : Bool} {e : Expr} (h : mIt mc it tb e = true) (env : PySem.Env) (x : Value) : foldedSetIterable e env x = pure x := by
  cases it with
  | val ir => exact fold_of (show mE mc ir e = true from h) env x
  | rng es => cases e <;> first | rfl | exact absurd h Bool.false_ne_true
  | enum it => cases e <;> first | rfl | exact absurd h Bool.false_ne_true
  | zip a b => cases e <;> first | rfl | exact absurd h Bool.false_ne_true
theorem es_len {mc : MC} : ∀ {irs : Es} {l : List Expr} {F : Nat → List D → Wd → Res D} {ρ : Env} {w w' : Wd} {ds : List D}, mEs mc irs l = true → evEs F irs ρ w = .ok ds w' → ds.length = l.length
  | .nil, l, F, ρ, w, w', ds, h, e => by
    cases l with
    | nil =>
      rw [evEs] at e
      cases e; rfl
    | cons _ _ => exact absurd h Bool.false_ne_true
  | .cons ir irs, l, F, ρ, w, w', ds, h, e => by
    cases l with
    | nil => exact absurd h Bool.false_ne_true
    | cons x l =>
      have h : (mE mc ir x && mEs mc irs l) = true := h
      obtain ⟨h1, h2⟩ := Bool.and_eq_true_iff.mp h
      rw [evEs] at e
      cases q : evE F ir ρ w with
      | ok d w1 =>
        rw [q, Res.bind_ok] at e
        cases q2 : evEs F irs ρ w1 with
        | ok es w2 =>
          rw [q2, Res.bind_ok] at e
          cases e
          rw [List.length_cons, List.length_cons, es_len h2 q2]
        | exc c w2 => rw [q2] at e; cases e
        | stk => rw [q2] at e; cases e
      | exc c w1 => rw [q] at e; cases e
      | stk => rw [q] at e; cases e

/-! ## targets -/
/-- what a target does -/
def tT (G : Glb) (t : Tg) : TG := fun v σ H Q => ∃ S ρ d ρ', S.H = H ∧ OkS G.K S ∧ Mt G S ρ σ ∧ dn G S v d ∧ bindT t d ρ = some ρ' ∧
  ∀ σ', Mt G S ρ' σ' → σ'.length = σ.length → (∀ j, j ∉ tgS t → σ'[j]? = σ[j]?) → Q σ' H
def tTs (G : Glb) (ts : Tgs) : TGs := fun vs σ H Q => ∃ S ρ ds ρ', S.H = H ∧ OkS G.K S ∧ Mt G S ρ σ ∧ dna G S vs ds ∧ bindTs ts ds ρ = some ρ' ∧
  ∀ σ', Mt G S ρ' σ' → σ'.length = σ.length → (∀ j, j ∉ tgsS ts → σ'[j]? = σ[j]?) → Q σ' H
section
variable {G : Glb} {X : Cx} {mc : MC} {k : Nat} {W : WX}
theorem Mt.set {S : Sit} {ρ : Env} {σ : L2.St} (m : Mt G S ρ σ) {i : Nat} {v : V} {d : D} (h : dn G S v d) : Mt G S (ρ.set i (some d)) (σ.set i (some v)) := by
  refine ⟨by rw [List.length_set, List.length_set]; exact m.1, fun j e hj => ?_⟩
  by_cases q : i = j
  · subst q
    have hl : i < ρ.length := by
      have := (List.getElem?_eq_some_iff.mp hj).1
      rwa [List.length_set] at this
    rw [List.getElem?_set_self hl] at hj
    cases hj
    exact ⟨v, List.getElem?_set_self (by rw [← m.1]; exact hl), h⟩
  · rw [List.getElem?_set_ne q] at hj ⊢
    exact m.2 j e hj
theorem st_of (g : Gd G X mc k W) {x : Str} (h : stB mc x = true) : L2.Loc X.env.scope x ∧ (X.fn x = true ∨ X.env.scope.names.lookup x = some .local) := by
  unfold stB at h
  unfold L2.Loc
  rw [g.sc]
  cases q : mc.sc.names.lookup x with
  | none => rw [q] at h; exact absurd h Bool.false_ne_true
  | some n =>
    rw [q] at h
    cases n with
    | «local» => exact ⟨.inl rfl, .inr rfl⟩
    | cell => exact ⟨.inr rfl, .inl (g.fn x h)⟩
    | _ => exact absurd h Bool.false_ne_true
theorem tgs_len {mc : MC} : ∀ {ts : Tgs} {es : List Expr} (env : PySem.Env), mTs mc ts es = true → (assignEach es env).length = es.length ∧ (assignEach es env).findIdx? (·.1) = none
  | .nil, es, env, h => by
    cases es with
    | nil => exact ⟨rfl, rfl⟩
    | cons _ _ => exact absurd h Bool.false_ne_true
  | .cons t ts, es, env, h => by
    cases es with
    | nil => exact absurd h Bool.false_ne_true
    | cons e es =>
      have h : (mT mc t e && mTs mc ts es) = true := h
      obtain ⟨h1, h2⟩ := Bool.and_eq_true_iff.mp h
      obtain ⟨i1, i2⟩ := tgs_len env h2
      have a : assignEach (e :: es) env = (false, assign e env) :: assignEach es env := by
        cases t <;> cases e <;> first | rfl | exact absurd h1 Bool.false_ne_true
      rw [a]
      refine ⟨by rw [List.length_cons, List.length_cons, i1], ?_⟩
      rw [List.findIdx?_cons, i2]; rfl
theorem bindTs_len : ∀ {ts : Tgs} {ds : List D} {ρ ρ' : Env} {mc : MC} {es : List Expr}, bindTs ts ds ρ = some ρ' → mTs mc ts es = true → ds.length = es.length
  | .nil, ds, ρ, ρ', mc, es, h, m => by
    cases es with
    | nil => cases ds with
      | nil => rfl
      | cons _ _ => rw [bindTs] at h <;> first | (cases h; done) | (intros; simp_all)
    | cons _ _ => exact absurd m Bool.false_ne_true
  | .cons t ts, ds, ρ, ρ', mc, es, h, m => by
    cases es with
    | nil => exact absurd m Bool.false_ne_true
    | cons e es =>
      have m : (mT mc t e && mTs mc ts es) = true := m
      obtain ⟨h1, h2⟩ := Bool.and_eq_true_iff.mp m
      cases ds with
      | nil => rw [bindTs] at h <;> first | (cases h; done) | (intros; simp_all)
      | cons d ds =>
        rw [bindTs] at h
        cases q : bindT t d ρ with
        | none => rw [q] at h; cases h
        | some ρ1 =>
          rw [q] at h
          rw [List.length_cons, List.length_cons, bindTs_len h h2]
mutual
theorem sT (g : Gd G X mc k W) : ∀ (t : Tg) (e : Expr), mT mc t e = true → PG X e (tT G t)
  | .nm i, e, h => by
    cases e with
    | Name x pos =>
      have h : (decide (mc.N[i]? = some x) && stB mc x) = true := h
      obtain ⟨h1, h2⟩ := Bool.and_eq_true_iff.mp h
      have h1 := of_decide_eq_true h1
      obtain ⟨l1, l2⟩ := st_of g h2
      refine PG.imp (pg_name (i := i) (by rw [g.N]; exact g.nd) (by rw [g.N]; exact h1) l1 l2) fun v σ H Q ⟨S, ρ, d, ρ', hH, ok, m, hd, hb, hq⟩ => ?_
      subst hH
      have hb : (if i < ρ.length then some (ρ.set i (some d)) else none) = some ρ' := hb
      by_cases hi : i < ρ.length
      · rw [if_pos hi] at hb
        cases hb
        refine hq _ (m.set hd) (by rw [List.length_set]) fun j hj => ?_
        have : i ≠ j := fun e => hj (by rw [tgS, e]; exact List.mem_cons_self)
        rw [List.getElem?_set_ne this]
      · rw [if_neg hi] at hb; cases hb
    | _ => exact absurd h Bool.false_ne_true
  | .tup ts, e, h => by
    cases e with
    | Tuple es kk pos =>
      have h : mTs mc ts es = true := h
      obtain ⟨l1, l2⟩ := tgs_len X.env h
      refine PG.imp (pg_tup (n := es.length) g.calm (sTs g ts es h) l1 l2) fun v σ H Q ⟨S, ρ, d, ρ', hH, ok, m, hd, hb, hq⟩ => ?_
      subst hH
      cases d with
      | tup ds =>
        have hb : bindTs ts ds ρ = some ρ' := hb
        obtain ⟨a, vs, rfl, h1, _, d1⟩ := tup_of ok hd rfl
        refine ⟨a, vs, rfl, by rw [g.K]; exact h1, ?_, S, ρ, ds, ρ', rfl, ok, m, d1, hb, hq⟩
        rw [d1.length, bindTs_len hb h]
      | _ => rw [bindT] at hb <;> first | (cases hb; done) | (intros; simp_all)
    | _ => exact absurd h Bool.false_ne_true
theorem sTs (g : Gd G X mc k W) : ∀ (ts : Tgs) (es : List Expr), mTs mc ts es = true → PGs X es (tTs G ts)
  | .nil, es, h => by
    cases es with
    | nil =>
      refine ⟨fun pins s σ H vs us Q I r ⟨S, ρ, ds, ρ', hH, ok, m, hd, hb, hq⟩ => ?_⟩
      subst hH
      cases ds with
      | nil =>
        cases hd
        have hb : some ρ = some ρ' := hb
        cases hb
        exact pgs_nil.run pins s σ S.H [] us Q I r ⟨rfl, hq σ m rfl fun _ _ => rfl⟩
      | cons _ _ => rw [bindTs] at hb <;> first | (cases hb; done) | (intros; simp_all)
    | cons _ _ => exact absurd h Bool.false_ne_true
  | .cons t ts, es, h => by
    cases es with
    | nil => exact absurd h Bool.false_ne_true
    | cons e es =>
      have h : (mT mc t e && mTs mc ts es) = true := h
      obtain ⟨h1, h2⟩ := Bool.and_eq_true_iff.mp h
      have a : (assignEach (e :: es) X.env).map (·.2) = assign e X.env :: (assignEach es X.env).map (·.2) := by
        cases t <;> cases e <;> first | rfl | exact absurd h1 Bool.false_ne_true
      refine ⟨fun pins s σ H vs us Q I r ⟨S, ρ, ds, ρ', hH, ok, m, hd, hb, hq⟩ => ?_⟩
      subst hH
      cases ds with
      | nil => rw [bindTs] at hb <;> first | (cases hb; done) | (intros; simp_all)
      | cons d ds =>
        cases hd with
        | cons hd1 hd2 =>
          rw [bindTs] at hb
          cases q : bindT t d ρ with
          | none => rw [q] at hb; cases hb
          | some ρ1 =>
            rw [q] at hb
            refine (pgs_cons (sT g t e h1) (sTs g ts es h2) a).run pins s σ S.H _ us Q I r ⟨_, _, rfl, S, ρ, d, ρ1, rfl, ok, m, hd1, q, fun σ1 m1 l1 k1 => ?_⟩
            refine ⟨S, ρ1, ds, ρ', rfl, ok, m1, hd2, hb, fun σ2 m2 l2 k2 => hq σ2 m2 (l2.trans l1) fun j hj => ?_⟩
            rw [tgsS, List.mem_append, not_or] at hj
            rw [k2 j hj.2, k1 j hj.1]
end
end

/-! ## what is walked -/
section
variable {X : Cx} {tg e : Expr}
/-- a list or a tuple, whichever comes -/
theorem pi_val {te : TE} (he : PE X e te) : PI X tg e (fun σ H R => te σ H fun x H1 => (∃ a, x = .ref a ∧ (∃ xs, SqL X.K H1 a xs) ∧ R (Itl X.K a) H1) ∨ ∃ a, x = .ref a ∧ (∃ xs, SqT X.K H1 a xs) ∧ R (Itt X.K a) H1) := by
  refine ⟨fun pins s σ H R I h => ?_⟩
  refine thn (he.run pins s σ H _ I h) fun v s1 ⟨x, H1, I1, r1, q1⟩ => ?_
  rcases q1 with ⟨a, ex, ⟨xs, hq⟩, q⟩ | ⟨a, ex, ⟨xs, hq⟩, q⟩
  · subst ex
    cases r1
    obtain ⟨its, rv, p, hz⟩ := I1.list hq
    refine wpAny_pyIter_list p.isList ?_
    refine ⟨s1.heap.objs.size, [s1.heap.objs.size], _, _, H1, rfl, I1.kept (t' := s1.toks) fun b o e => Heap.get?_push_of_some _ e, turn_list a _, ⟨_, Heap.get?_push_size _ rfl, rfl, rfl⟩, fun b hb => ?_, q⟩
    have e : b = s1.heap.objs.size := by simpa using hb
    subst e
    exact I1.fpOk (Nat.le_refl _) (I1.hok.fresh (Nat.le_refl _))
  · subst ex
    cases r1
    obtain ⟨its, rv, p, hz⟩ := I1.tuple hq
    refine wpAny_pyIter_tuple (show s1.heap.IsTuple a its.toArray from p) ?_
    refine ⟨s1.heap.objs.size, [s1.heap.objs.size], _, _, H1, rfl, I1.kept (t' := s1.toks) fun b o e => Heap.get?_push_of_some _ e, turn_tuple a _, ⟨_, Heap.get?_push_size _ rfl, rfl, rfl⟩, fun b hb => ?_, q⟩
    have e : b = s1.heap.objs.size := by simpa using hb
    subst e
    exact I1.fpOk (Nat.le_refl _) (I1.hok.fresh (Nat.le_refl _))
end
section
variable {G : Glb} {S : Sit}
theorem wk_list {a : Addr} {vs : List V} {ds : List D} (h : SqL G.K S.I a vs) (hd : dna G S vs ds) : Wk G S (Itl G.K a) ds := by
  intro S' p ok i
  have hs : SqL G.K S'.H a vs := ok.sub.seq (p.I.seq h)
  refine ⟨fun d hi => ?_, fun hi => ⟨vs, hs, by rw [DenA.length hd]; exact hi⟩⟩
  obtain ⟨v, hv, hdv⟩ := DenA.get hd hi
  refine ⟨⟨vs, v, hs, hv⟩, fun x H' ⟨e, hx⟩ => ⟨S', .refl S', ok, rfl, e.symm, ?_⟩⟩
  have hx := hx vs hs
  rw [hv] at hx
  cases hx
  exact Den.step hdv p
theorem wk_tup {a : Addr} {vs : List V} {ds : List D} (h : SqT G.K S.I a vs) (hd : dna G S vs ds) : Wk G S (Itt G.K a) ds := by
  intro S' p ok i
  have hs : SqT G.K S'.H a vs := Same_seqT ok.sub (Same_seqT p.I h)
  refine ⟨fun d hi => ?_, fun hi => ⟨vs, hs, by rw [DenA.length hd]; exact hi⟩⟩
  obtain ⟨v, hv, hdv⟩ := DenA.get hd hi
  refine ⟨⟨vs, v, hs, hv⟩, fun x H' ⟨e, hx⟩ => ⟨S', .refl S', ok, rfl, e.symm, ?_⟩⟩
  have hx := hx vs hs
  rw [hv] at hx
  cases hx
  exact Den.step hdv p
theorem rangeL_len (c : Int) : ∀ (n : Nat) (lo : Int), (rangeL lo c n).length = n
  | 0, _ => rfl
  | n + 1, lo => by rw [rangeL, List.length_cons, rangeL_len c n]
theorem rangeL_get (c : Int) : ∀ (n : Nat) (lo : Int) (i : Nat) (d : D), (rangeL lo c n)[i]? = some d → i < n ∧ d = .int (lo + (i : Nat) * c)
  | 0, _, _, _, h => by simp [rangeL] at h
  | n + 1, lo, 0, d, h => by
    simp [rangeL] at h
    exact ⟨Nat.succ_pos _, by rw [← h]; simp⟩
  | n + 1, lo, i + 1, d, h => by
    rw [rangeL, List.getElem?_cons_succ] at h
    obtain ⟨h1, h2⟩ := rangeL_get c n (lo + c) i d h
    refine ⟨by omega, ?_⟩
    rw [h2]
    congr 1
    have : ((i + 1 : Nat) : Int) * c = (i : Nat) * c + c := by rw [Int.natCast_add, Int.add_mul]; simp
    rw [this]; omega
theorem wk_rng {lo : Int} {n : Nat} : Wk G S (Itr lo n) (rangeL lo 1 n) := by
  intro S' p ok i
  refine ⟨fun d hi => ?_, fun hi => by rw [rangeL_len] at hi; exact hi⟩
  obtain ⟨h1, h2⟩ := rangeL_get 1 n lo i d hi
  refine ⟨h1, fun x H' ⟨e, hx⟩ => ⟨S', .refl S', ok, rfl, e.symm, ?_⟩⟩
  rw [h2, hx, Int.mul_one]
  exact .int _
theorem wk_rngC {lo c : Int} {n : Nat} : Wk G S (Itc lo c n) (rangeL lo c n) := by
  intro S' p ok i
  refine ⟨fun d hi => ?_, fun hi => by rw [rangeL_len] at hi; exact hi⟩
  obtain ⟨h1, h2⟩ := rangeL_get c n lo i d hi
  refine ⟨h1, fun x H' ⟨e, hx⟩ => ⟨S', .refl S', ok, rfl, e.symm, ?_⟩⟩
  rw [h2, hx]
  exact .int _
end
end Ir
/-! # comprehensions -/
namespace Ir
open PySem PySem.Spec PyProof.Rows L2

/-! ## a list that is being made -/
/-- the list at p is tracked, and it is nobody's -/
structure Acc (S : Sit) (p : Addr) (vs : List V) : Prop where
  H : S.H p = some (.lst vs)
  I : S.I p = none
  own : ¬ Own S p
def Sit.trk (S : Sit) (p : Addr) (o : HO) : Sit := { S with H := upd S.H p o }
section
variable {K : PySem.W.Frag} {S S1 : Sit} {p : Addr} {vs : List V}
theorem Acc.step (a : Acc S p vs) (q : Step S S1) : Acc S1 p vs where
  H := q.fr p _ a.H a.own
  I := by
    cases e : S1.I p with
    | none => rfl
    | some o =>
      rcases q.nI p (by rw [e]; exact fun z => nomatch z) a.I with z | z
      · rw [a.H] at z; cases z
      · exact absurd z a.own
  own := fun z => (q.nO p z).elim a.own fun e => by rw [a.H] at e; cases e
theorem own_trk {o : HO} {b : Addr} : Own (S.trk p o) b ↔ Own S b := Iff.rfl
theorem step_trk {o : HO} (ok : OkS K S) (h : S.H p = none) : Step S (S.trk p o) := ⟨Same.refl _, fun _ _ h => h, fun a x e _ => same_upd' h a x e, fun a h1 h2 => absurd h2 h1, fun a z => .inl z⟩
/-- tracked, or changed: what is nobody's -/
theorem ok_trk {o : HO} (ok : OkS K S) (hI : S.I p = none) (ho : ¬ Own S p) : OkS K (S.trk p o) where
  sub := fun b x e => by
    have : b ≠ p := by rintro rfl; have e' : S.I b = some x := e; rw [hI] at e'; cases e'
    show upd S.H p o b = some x
    rw [upd_ne this]; exact ok.sub b x e
  len := ok.len
  cell := fun n c hc hd => by
    obtain ⟨a, h1, h2, r⟩ := ok.cell n c hc hd
    have ne : a ≠ p := by rintro rfl; exact ho ⟨n, c, hc, hd, h1⟩
    refine ⟨a, h1, h2, ?_⟩
    cases r with
    | lst e hs => exact .lst (by show upd S.H p o a = _; rw [upd_ne ne]; exact e) hs
  inj := ok.inj
theorem acc_trk (ok : OkS K S) (h : S.H p = none) : Acc (S.trk p (.lst vs)) p vs := ⟨upd_same, ok.freeI h, fun z => by
  obtain ⟨o, e⟩ := ok.own_some z
  rw [h] at e; cases e⟩
/-- one item more; S0: where the list was not yet -/
theorem step_more {S0 : Sit} {us : List V} (q : Step S0 S) (h0 : S0.H p = none) (a : Acc S p vs) : Step S0 (S.trk p (.lst us)) where
  I := q.I
  L := q.L
  fr := fun b x e hb => by
    show upd S.H p _ b = some x
    rw [upd_ne (ne_of_none e h0)]; exact q.fr b x e hb
  nI := q.nI
  nO := q.nO
theorem Acc.more {us : List V} (a : Acc S p vs) : Acc (S.trk p (.lst us)) p us := ⟨upd_same, a.I, a.own⟩
/-- the list is a value -/
def Sit.seal (S : Sit) (p : Addr) (o : HO) : Sit := { S with I := upd S.I p o }
theorem step_seal {S0 : Sit} (q : Step S0 S) (h0 : S0.H p = none) (a : Acc S p vs) : Step S0 (S.seal p (.lst vs)) where
  I := q.I.trans (same_upd' a.I)
  L := q.L
  fr := q.fr
  nI := fun b h1 h2 => by
    by_cases e : b = p
    · subst e; exact .inl h0
    · have : upd S.I p _ b ≠ none := h1
      rw [upd_ne e] at this
      exact q.nI b this h2
  nO := q.nO
theorem ok_seal (ok : OkS K S) (a : Acc S p vs) : OkS K (S.seal p (.lst vs)) where
  sub := fun b x e => by
    have e' : upd S.I p (.lst vs) b = some x := e
    by_cases eb : b = p
    · subst eb; rw [upd_same] at e'; cases e'; exact a.H
    · rw [upd_ne eb] at e'; exact ok.sub b x e'
  len := ok.len
  cell := fun n c hc hd => by
    obtain ⟨b, h1, h2, r⟩ := ok.cell n c hc hd
    have ne : b ≠ p := by rintro rfl; exact a.own ⟨n, c, hc, hd, h1⟩
    refine ⟨b, h1, by show upd S.I p _ b = none; rw [upd_ne ne]; exact h2, ?_⟩
    cases r with
    | lst e hs => exact .lst e (hs.mono (same_upd' a.I) fun _ _ h => h)
  inj := ok.inj
/-- the list is a cell -/
def Sit.join (S : Sit) (p : Addr) (c : Cell) : Sit := { S with L := S.L ++ [p], w := S.w ++ [c] }
theorem own_join (ok : OkS K S) {c : Cell} {b : Addr} (h : Own (S.join p c) b) : Own S b ∨ b = p := by
  obtain ⟨n, c', hc, hd, hl⟩ := h
  rcases get_snoc hc with hc | ⟨hn, _⟩
  · have hn := (List.getElem?_eq_some_iff.mp hc).1
    have hl' : S.L[n]? = some b := by
      have : (S.L ++ [p])[n]? = some b := hl
      rwa [List.getElem?_append_left (by rw [ok.len]; exact hn)] at this
    exact .inl ⟨n, c', hc, hd, hl'⟩
  · have : (S.L ++ [p])[n]? = some b := hl
    rw [hn, ← ok.len, List.getElem?_append_right (Nat.le_refl _)] at this
    simp at this
    exact .inr this.symm
theorem step_join {S0 : Sit} {c : Cell} (ok : OkS K S) (q : Step S0 S) (h0 : S0.H p = none) : Step S0 (S.join p c) where
  I := q.I
  L := fun n a h => get_old (q.L n a h)
  fr := q.fr
  nI := q.nI
  nO := fun b h => (own_join ok h).elim (q.nO b) fun e => by rw [e]; exact .inr h0
theorem ok_join (ok : OkS K S) (a : Acc S p vs) {xs : List D} (hv : DenA K S.I S.L vs xs) : OkS K (S.join p (.lst xs)) where
  sub := ok.sub
  len := by show (S.L ++ [p]).length = (S.w ++ [_]).length; simp [ok.len]
  cell := fun n c hc0 hd => by
    have mono : ∀ (n : Nat) b, S.L[n]? = some b → (S.L ++ [p])[n]? = some b := fun _ _ h => get_old h
    rcases get_snoc hc0 with hc | ⟨hn, rfl⟩
    · obtain ⟨b, h1, h2, r⟩ := ok.cell n c hc hd
      refine ⟨b, get_old h1, h2, ?_⟩
      cases r with
      | lst e hs => exact .lst e (hs.mono (Same.refl _) mono)
    · refine ⟨p, ?_, a.I, .lst a.H (hv.mono (Same.refl _) mono)⟩
      show (S.L ++ [p])[n]? = some p
      rw [hn, ← ok.len, List.getElem?_append_right (Nat.le_refl _)]; simp
  inj := fun n m b c c' h1 d1 h2 d2 l1 l2 => by
    have key : ∀ (n : Nat) (c : Cell), (S.w ++ [Cell.lst xs])[n]? = some c → c ≠ .dead → (S.L ++ [p])[n]? = some b → (S.w[n]? = some c ∧ S.L[n]? = some b ∧ b ≠ p) ∨ (n = S.w.length ∧ b = p) := by
      intro n c hc hd hl
      rcases get_snoc hc with hc | ⟨hn, _⟩
      · have hl' : S.L[n]? = some b := by
          rwa [List.getElem?_append_left (by rw [ok.len]; exact (List.getElem?_eq_some_iff.mp hc).1)] at hl
        refine .inl ⟨hc, hl', ?_⟩
        rintro rfl
        exact a.own ⟨n, c, hc, hd, hl'⟩
      · rw [hn, ← ok.len, List.getElem?_append_right (Nat.le_refl _)] at hl
        simp at hl
        exact .inr ⟨hn, hl.symm⟩
    rcases key n c h1 d1 l1 with ⟨a1, a2, a3⟩ | ⟨a1, a2⟩
    · rcases key m c' h2 d2 l2 with ⟨b1, b2, b3⟩ | ⟨b1, b2⟩
      · exact ok.inj n m b c c' a1 d1 b1 d2 a2 b2
      · exact absurd b2 a3
    · rcases key m c' h2 d2 l2 with ⟨b1, b2, b3⟩ | ⟨b1, b2⟩
      · exact absurd a2 b3
      · rw [a1, b1]
end

/-! ## the block's own names -/
/-- two slot lists that agree but at these places -/
def Agr (A : List Nat) (ρ1 ρ2 : Env) : Prop := ρ1.length = ρ2.length ∧ ∀ j, j ∉ A → ρ1[j]? = ρ2[j]?
mutual
theorem bindT_agr : ∀ (t : Tg) {A : List Nat} {d : D} {ρ1 ρ2 ρ1' : Env}, Agr A ρ1 ρ2 → bindT t d ρ1 = some ρ1' → ∃ ρ2', bindT t d ρ2 = some ρ2' ∧ Agr (A.filter fun j => decide (j ∉ tgS t)) ρ1' ρ2'
  | .nm i, A, d, ρ1, ρ2, ρ1', a, h => by
    have h : (if i < ρ1.length then some (ρ1.set i (some d)) else none) = some ρ1' := h
    by_cases hi : i < ρ1.length
    · rw [if_pos hi] at h
      cases h
      refine ⟨ρ2.set i (some d), if_pos (by rw [← a.1]; exact hi), by rw [List.length_set, List.length_set]; exact a.1, fun j hj => ?_⟩
      by_cases e : i = j
      · subst e
        rw [List.getElem?_set_self hi, List.getElem?_set_self (by rw [← a.1]; exact hi)]
      · rw [List.getElem?_set_ne e, List.getElem?_set_ne e]
        refine a.2 j fun hm => hj (List.mem_filter.mpr ⟨hm, ?_⟩)
        rw [decide_eq_true_eq, tgS]
        exact fun z => e (List.mem_singleton.mp z).symm
    · rw [if_neg hi] at h; cases h
  | .tup ts, A, d, ρ1, ρ2, ρ1', a, h => by
    cases d with
    | tup ds =>
      have h : bindTs ts ds ρ1 = some ρ1' := h
      obtain ⟨ρ2', e, r⟩ := bindTs_agr ts a h
      exact ⟨ρ2', e, r⟩
    | _ => rw [bindT] at h <;> first | (cases h; done) | (intros; simp_all)
theorem bindTs_agr : ∀ (ts : Tgs) {A : List Nat} {ds : List D} {ρ1 ρ2 ρ1' : Env}, Agr A ρ1 ρ2 → bindTs ts ds ρ1 = some ρ1' → ∃ ρ2', bindTs ts ds ρ2 = some ρ2' ∧ Agr (A.filter fun j => decide (j ∉ tgsS ts)) ρ1' ρ2'
  | .nil, A, ds, ρ1, ρ2, ρ1', a, h => by
    cases ds with
    | nil =>
      have h : some ρ1 = some ρ1' := h
      cases h
      exact ⟨ρ2, rfl, a.1, fun j hj => a.2 j fun hm => hj (List.mem_filter.mpr ⟨hm, by rw [decide_eq_true_eq, tgsS]; exact fun z => nomatch z⟩)⟩
    | cons _ _ => rw [bindTs] at h <;> first | (cases h; done) | (intros; simp_all)
  | .cons t ts, A, ds, ρ1, ρ2, ρ1', a, h => by
    cases ds with
    | nil => rw [bindTs] at h <;> first | (cases h; done) | (intros; simp_all)
    | cons d ds =>
      rw [bindTs] at h
      cases q : bindT t d ρ1 with
      | none => rw [q] at h; cases h
      | some r1 =>
        rw [q] at h
        obtain ⟨r2, e2, a2⟩ := bindT_agr t a q
        obtain ⟨ρ2', e3, a3⟩ := bindTs_agr ts a2 h
        refine ⟨ρ2', by rw [bindTs, e2]; exact e3, a3.1, fun j hj => a3.2 j fun hm => hj ?_⟩
        obtain ⟨h1, h2⟩ := List.mem_filter.mp hm
        obtain ⟨h3, h4⟩ := List.mem_filter.mp h1
        refine List.mem_filter.mpr ⟨h3, ?_⟩
        rw [decide_eq_true_eq] at h2 h4 ⊢
        rw [tgsS, List.mem_append, not_or]
        exact ⟨h4, h2⟩
end
def wipeE (ρ : Env) : List Nat → Env
  | [] => ρ
  | v :: vs => (wipeE ρ vs).set v none
theorem wipeE_len (ρ : Env) : ∀ vs : List Nat, (wipeE ρ vs).length = ρ.length
  | [] => rfl
  | v :: vs => by rw [wipeE, List.length_set, wipeE_len ρ vs]
theorem wipeE_get (ρ : Env) : ∀ (vs : List Nat) (j : Nat), (wipeE ρ vs)[j]? = if j ∈ vs then (if j < ρ.length then some none else none) else ρ[j]?
  | [], j => by rw [wipeE]; simp
  | v :: vs, j => by
    rw [wipeE]
    by_cases e : v = j
    · subst e
      rw [if_pos List.mem_cons_self]
      by_cases hl : v < ρ.length
      · rw [if_pos hl, List.getElem?_set_self (by rw [wipeE_len]; exact hl)]
      · rw [if_neg hl, List.getElem?_eq_none (by rw [List.length_set, wipeE_len]; omega)]
    · rw [List.getElem?_set_ne e, wipeE_get ρ vs j]
      have : j ∈ v :: vs ↔ j ∈ vs := ⟨fun h => (List.mem_cons.mp h).elim (fun z => absurd z.symm e) id, List.mem_cons_of_mem _⟩
      simp only [this]
theorem wipe_get (σ : L2.St) : ∀ (vs : List Nat) (j : Nat), (wipe σ vs)[j]? = if j ∈ vs then (if j < σ.length then some none else none) else σ[j]?
  | [], j => by rw [wipe]; simp
  | v :: vs, j => by
    rw [wipe]
    by_cases e : v = j
    · subst e
      rw [if_pos List.mem_cons_self]
      by_cases hl : v < σ.length
      · rw [if_pos hl, List.getElem?_set_self (by rw [wipe_length]; exact hl)]
      · rw [if_neg hl, List.getElem?_eq_none (by rw [List.length_set, wipe_length]; omega)]
    · rw [List.getElem?_set_ne e, wipe_get σ vs j]
      have : j ∈ v :: vs ↔ j ∈ vs := ⟨fun h => (List.mem_cons.mp h).elim (fun z => absurd z.symm e) id, List.mem_cons_of_mem _⟩
      simp only [this]
theorem wipe_same {σ σ' : L2.St} {vs : List Nat} (hl : σ'.length = σ.length) (h : ∀ j, j ∉ vs → σ'[j]? = σ[j]?) : wipe σ' vs = wipe σ vs := by
  apply List.ext_getElem?
  intro j
  rw [wipe_get, wipe_get, hl]
  by_cases hj : j ∈ vs
  · rw [if_pos hj, if_pos hj]
  · rw [if_neg hj, if_neg hj, h j hj]
theorem Mt.wipe {G : Glb} {S : Sit} {ρ : Env} {σ : L2.St} (m : Mt G S ρ σ) (vs : List Nat) : Mt G S (wipeE ρ vs) (wipe σ vs) := by
  refine ⟨by rw [wipeE_len, wipe_length]; exact m.1, fun i d h => ?_⟩
  rw [wipeE_get] at h
  by_cases hj : i ∈ vs
  · rw [if_pos hj] at h
    by_cases hl : i < ρ.length
    · rw [if_pos hl] at h; cases h
    · rw [if_neg hl] at h; cases h
  · rw [if_neg hj] at h
    obtain ⟨v, h1, h2⟩ := m.2 i d h
    exact ⟨v, by rw [wipe_get, if_neg hj]; exact h1, h2⟩
/-- all own names are stored by the target -/
theorem bindT_wipe {t : Tg} {d : D} {ρ ρ' : Env} (h : bindT t d ρ = some ρ') : bindT t d (wipeE ρ (tgS t)) = some ρ' := by
  have a : Agr (tgS t) ρ (wipeE ρ (tgS t)) := ⟨(wipeE_len ρ _).symm, fun j hj => by rw [wipeE_get, if_neg hj]⟩
  obtain ⟨ρ2, e, r⟩ := bindT_agr t a h
  rw [e]
  congr 1
  apply List.ext_getElem?
  intro j
  refine (r.2 j fun hm => ?_).symm
  obtain ⟨h1, h2⟩ := List.mem_filter.mp hm
  rw [decide_eq_true_eq] at h2
  exact h2 h1

/-! ## the turns -/
section
variable {G : Glb} {X : Cx} {mc : MC} {k : Nat} {W : WX}
def ownL (mc : MC) (is : List Nat) : List (Str × Nat) := is.map fun i => (mc.N.getD i default, i)
theorem ownL_ix (mc : MC) : ∀ is : List Nat, (ownL mc is).map (·.2) = is
  | [] => rfl
  | i :: is => congrArg (i :: ·) (ownL_ix mc is)
theorem blk_of (g : Gd G X mc k W) {scope : Scope} {is : List Nat} (h : blkB mc scope is = true) : BlkOk X.N X.env.scope scope (ownL mc is) := by
  unfold blkB at h
  simp only [Bool.and_eq_true, List.all_eq_true, beq_iff_eq, decide_eq_true_eq, Bool.or_eq_true, Bool.not_eq_true', List.any_eq_true] at h
  obtain ⟨⟨⟨⟨h1, h2⟩, h3⟩, h4⟩, h5⟩ := h
  have hN := g.N
  refine ⟨h1, fun y hy => h2 y hy, fun p hp => ?_, fun y hy e => ?_, fun y hy e => ?_⟩
  · obtain ⟨i, hi, rfl⟩ := List.mem_map.mp hp
    obtain ⟨x, hx⟩ := Option.isSome_iff_exists.mp (h3 i hi)
    show X.N[i]? = some (mc.N.getD i default)
    rw [hN, List.getD_eq_getElem?_getD, hx]; rfl
  · rw [g.sc]
    rcases h4 y hy with (z | z) | z
    · rw [e] at z; simp at z
    · exact .inl z
    · exact .inr z
  · rcases h5 y hy with (z | ⟨i, hi, z⟩) | z
    · rcases e with e | e <;> (rw [e] at z; simp at z)
    · refine .inl (List.mem_map.mpr ⟨(mc.N.getD i default, i), List.mem_map.mpr ⟨i, hi, rfl⟩, ?_⟩)
      show mc.N.getD i default = y.1
      rw [List.getD_eq_getElem?_getD, z]; rfl
    · rw [hN]; exact .inr z
/-- what ends a comprehension -/
def lcEnd (cell : Bool) (ys : List D) (w : Wd) : Res D := if cell then .ok (.loc w.length) (w ++ [.lst ys]) else .ok (.lst ys) w
theorem lc_end {cell : Bool} {S0 S : Sit} {σ : L2.St} {p : Addr} {vs : List V} {ys : List D} {Q : VK} (A : Ans G W (dn G) S0 σ (lcEnd cell ys S.w) Q) (q : Step S0 S) (ok : OkS G.K S) (h0 : S0.H p = none) (a : Acc S p vs) (hv : dna G S vs ys) : Q (.ref p) S.H := by
  cases cell with
  | false =>
    refine A (.ref p) (S.seal p (.lst vs)) (step_seal q h0 a) (ok_seal ok a) rfl (.lst (show upd S.I p (.lst vs) p = _ from upd_same) ?_)
    exact DenA.mono (same_upd' a.I) (fun _ _ h => h) hv
  | true =>
    refine A (.ref p) (S.join p (.lst ys)) (step_join ok q h0) (ok_join ok a hv) rfl (.loc ?_)
    show (S.L ++ [p])[S.w.length]? = some p
    rw [← ok.len, List.getElem?_append_right (Nat.le_refl _)]; simp
theorem nox_bind {α γ β : Type} {r : Res α} {f : α → Wd → Res γ} {g : γ → Wd → Res β} : ((r.bind f).nox).bind g = match r with
  | .ok a w => ((f a w).nox).bind g
  | _ => .stk := by cases r <;> rfl
/-- the whole comprehension: what it walks, its target, its test, its item -/
theorem lc_sound (g : Gd G X mc k W) {cell : Bool} {t : Tg} {it : It} {c elt : E} {tgx iter elt' : Expr} {ifs : List Expr} {scope : Scope} {pos : Pos}
    (hi : PI X tgx iter (tIt G W it)) (hb : blkB mc scope (tgS t) = true) (hg : ∀ (s : Shared) (H : Hp) (C : Addr) (cl : List (Str × Addr)) (fp : List Addr), PG (X.blk s H scope (compEnvC scope cl C X.env) fp) tgx (tT G t))
    (ht : ∀ (s : Shared) (H : Hp) (C : Addr) (cl : List (Str × Addr)) (fp : List Addr), PTs (X.blk s H scope (compEnvC scope cl C X.env) fp) ifs (tTest (tE G (fun _ _ _ _ => False) c)))
    (he : ∀ (s : Shared) (H : Hp) (C : Addr) (cl : List (Str × Addr)) (fp : List Addr), PE (X.blk s H scope (compEnvC scope cl C X.env) fp) elt' (tE G (fun _ _ _ _ => False) elt)) (hs : ∀ x, foldedSetIterable iter X.env x = pure x) :
    ∀ σ H Q, tE G W (.lc cell t it c elt) σ H Q → tLc (tIt G W it) (tT G t) (tTest (tE G (fun _ _ _ _ => False) c)) (tE G (fun _ _ _ _ => False) elt) ((ownL mc (tgS t)).map (·.2)) σ H Q := by
  intro σ H Q ⟨S, ρ, hH, ok, m, A⟩
  subst hH
  rw [ownL_ix]
  have A : Ans G W (dn G) S σ ((evIt G.F it ρ S.w).bind fun ds w => ((lcL t ρ (evE G.F c) (evE G.F elt) ds [] w).nox).bind fun ys w => lcEnd cell ys w) Q := by
    have A := A
    unfold evE at A
    exact A
  refine tG.bind ok m A fun ds J S1 p1 ok1 m1 wk A1 => ?_
  intro D hD
  -- the word: behind i items
  refine ⟨fun i m H => m = ds.length - i ∧ i ≤ ds.length ∧ ∃ S' vs acc, S'.H = H ∧ Step S1 S' ∧ OkS G.K S' ∧ Acc S' D vs ∧ dna G S' vs acc.reverse ∧
    Ans G W (dn G) S1 σ (((lcL t ρ (evE G.F c) (evE G.F elt) (ds.drop i) acc S'.w).nox).bind fun ys w => lcEnd cell ys w) Q,
    ⟨ds.length, rfl, Nat.zero_le _, S1.trk D (.lst []), [], [], rfl, step_trk ok1 hD, ok_trk ok1 (ok1.freeI hD) (fun z => by
      obtain ⟨o, e⟩ := ok1.own_some z
      rw [hD] at e; cases e), acc_trk ok1 hD, (by exact DenA.nil), A1⟩, ?_⟩
  rintro i mm H ⟨rfl, hil, S', vs, acc, rfl, st, ok', ac, hv, A2⟩
  obtain ⟨w1, w2⟩ := wk S' st ok' i
  by_cases hlt : i < ds.length
  · have hd := List.getElem?_eq_getElem hlt
    obtain ⟨go, yl⟩ := w1 _ hd
    refine .inr ⟨go, fun H' => ∃ S' vs acc, S'.H = H' ∧ Step S1 S' ∧ OkS G.K S' ∧ Acc S' D vs ∧ dna G S' vs acc.reverse ∧
      Ans G W (dn G) S1 σ (((lcL t ρ (evE G.F c) (evE G.F elt) (ds.drop (i + 1)) acc S'.w).nox).bind fun ys w => lcEnd cell ys w) Q, fun H' h' => ⟨ds.length - (i + 1), by omega, rfl, hlt, h'⟩, fun x H' hy => ?_⟩
    obtain ⟨S2, p2, ok2, ew2, rfl, hx⟩ := yl x H' hy
    rw [List.drop_eq_getElem_cons hlt] at A2
    have A2 : Ans G W (dn G) S1 σ (((match bindT t ds[i] ρ with
      | some ρ' => (evE G.F c ρ' S'.w).bind fun b w => match truth b with
        | some true => (evE G.F elt ρ' w).bind fun y w => if acc.length < line then lcL t ρ (evE G.F c) (evE G.F elt) (ds.drop (i + 1)) (y :: acc) w else .stk
        | some false => lcL t ρ (evE G.F c) (evE G.F elt) (ds.drop (i + 1)) acc w
        | none => .stk
      | none => .stk).nox).bind fun ys w => lcEnd cell ys w) Q := A2
    cases hbt : bindT t ds[i] ρ with
    | none => rw [hbt] at A2; exact A2.elim
    | some ρ' =>
      rw [hbt] at A2
      dsimp only at A2
      rw [← ew2] at A2
      refine ⟨S2, wipeE ρ (tgS t), ds[i], ρ', rfl, ok2, ((m1.step st).step p2).wipe _, hx, bindT_wipe hbt, fun σ2 m2 l2 k2 => ⟨?_, ?_⟩⟩
      · refine (wipe_same l2 k2).trans (wipe_same (wipe_length _ _) fun j hj => ?_)
        rw [wipe_get, if_neg hj]
      · have st2 := st.trans p2
        have ac2 := ac.step p2
        have hv2 : dna G S2 vs acc.reverse := DenA.step hv p2
        rw [nox_bind] at A2
        refine ⟨S2, ρ', rfl, ok2, m2, ?_⟩
        cases hc : evE G.F c ρ' S2.w with
        | stk => rw [hc] at A2; exact A2.elim
        | exc e w => rw [hc] at A2; exact A2.elim
        | ok b w3 =>
          rw [hc] at A2
          dsimp only at A2
          intro v S3 p3 ok3 ew3 hb3
          subst ew3
          cases htb : truth b with
          | none => rw [htb] at A2; exact A2.elim
          | some bb =>
            rw [htb] at A2
            have eb := truth_bl htb
            subst eb
            cases den_bl hb3
            refine ⟨bb, rfl, ?_⟩
            cases bb with
            | false =>
              rw [if_neg Bool.false_ne_true]
              exact ⟨S3, vs, acc, rfl, st2.trans p3, ok3, ac2.step p3, DenA.step hv2 p3, A2⟩
            | true =>
              rw [if_pos rfl]
              dsimp only at A2
              rw [nox_bind] at A2
              refine ⟨S3, ρ', rfl, ok3, m2.step p3, ?_⟩
              cases hel : evE G.F elt ρ' S3.w with
              | stk => rw [hel] at A2; exact A2.elim
              | exc e w => rw [hel] at A2; exact A2.elim
              | ok y w4 =>
                rw [hel] at A2
                dsimp only at A2
                intro v S4 p4 ok4 ew4 hy4
                subst ew4
                have ac4 := (ac2.step p3).step p4
                have hv4 : dna G S4 vs acc.reverse := DenA.step (DenA.step hv2 p3) p4
                by_cases hz : acc.length < line
                · rw [if_pos hz] at A2
                  have hl : vs.length = acc.length := by rw [DenA.length hv4, List.length_reverse]
                  refine ⟨vs, ac4.H, by rw [← line_eq, hl]; exact hz, S4.trk D (.lst (vs ++ [v])), vs ++ [v], y :: acc, rfl, step_more ((st2.trans p3).trans p4) hD ac4, ok_trk ok4 ac4.I ac4.own, ac4.more, ?_, A2⟩
                  show DenA G.K S4.I S4.L (vs ++ [v]) (y :: acc).reverse
                  rw [List.reverse_cons]
                  exact DenA.append hv4 (.cons hy4 .nil)
                · rw [if_neg hz] at A2; exact A2.elim
  · have e : i = ds.length := by omega
    refine .inl ⟨w2 (by omega), ?_⟩
    rw [List.drop_eq_nil_of_le (by omega)] at A2
    have A2 : Ans G W (dn G) S1 σ (lcEnd cell acc.reverse S'.w) Q := A2
    exact lc_end A2 st ok' hD ac hv
end
end Ir
/-! # every expression keeps to the evaluator -/
namespace Ir
open PySem PySem.Spec PyProof.Rows L2
section
variable {G : Glb} {X : Cx} {mc : MC} {k : Nat} {W : WX}
/-- f() -/
theorem pe_callS0 {CX : CXT} {f : Addr} {fd : FuncData} {ps : List Str} {sp : Sp} {E : L2.St → XK} {x : Str} {p pos : Pos} (F : FnOk X.prog X.w X.K X.mg X.base CX k f fd ps sp) (hr : Room k X.A) (hg : Gl X x) (hm : X.mg x = some (.ref f)) (hk : PySem.W.keepIn X.K (.ref f) = true)
    (hb : Binds X.K fd ps []) (hx : ∀ σ, PassesAt CX X σ (E σ)) (hdb : (x == ("__debug__" : Str)) = false) : PE X (.Call (.Name x p) [] [] pos) (tCallS sp E tNil) := by
  refine ⟨fun pins s σ H Q I h => ?_⟩
  refine wpAny_Call_Name_kw (ld_glob I hg hm ?_ hdb)
  exact PySem.W.callWith_K0 I.kIn hk (run_fnS (us := []) F hr hb (hx σ) I .nil h)
/-- a call, whatever the number of its arguments -/
theorem call_sound (g : Gd G X mc k W) (ok : Gok G k) {x : Str} {f : Nat} {irs : Es} {l : List Expr} {p pos : Pos} (h : fnB mc x f = true) (hl : mEs mc irs l = true) (ha : PA X l (tEs G W irs)) :
    PE X (.Call (.Name x p) l [] pos) (tE G W (.call f irs)) := by
  obtain ⟨h1, h2, h3⟩ := fn_of' g h
  obtain ⟨m1, m2, fd, ps, m3, m4⟩ := ok.fns x f h2
  have m1' : X.mg x = some (.ref (G.fa f)) := by rw [g.mg]; exact m1
  have m2' : PySem.W.keepIn X.K (.ref (G.fa f)) = true := by rw [g.K]; exact m2
  have m3' : Binds X.K fd ps [] := by rw [g.K]; exact m3
  have m4' : FnOk X.prog X.w X.K X.mg X.base (L2.CX X.prog X.w) k (G.fa f) fd ps (spF G f) := by
    have e := m4
    rw [← g.prog, ← g.w, ← g.K, ← g.mg, ← g.base] at e
    exact e
  have key : ∀ σ H Q, tE G W (.call f irs) σ H Q → tCallS (spF G f) (WE W) (tEs G W irs) σ H Q := fun σ H Q ⟨S, ρ, hH, okS, m, A⟩ => by
    subst hH
    have A : Ans G W (dn G) S σ ((evEs G.F irs ρ S.w).bind fun ds w => G.F f ds w) Q := by
      have A := A
      unfold evE at A
      exact A
    refine tG.bind okS m A fun ds vs S1 p1 ok1 m1 hv A1 => ⟨S1, ds, rfl, ok1, hv, ?_⟩
    cases q : G.F f ds S1.w with
    | ok d w => rw [q] at A1; exact A1
    | exc c w => rw [q] at A1; exact A1
    | stk => rw [q] at A1; exact A1
  cases l with
  | nil =>
    cases irs with
    | nil =>
      refine PE.imp (pe_callS0 m4' g.room h1 m1' m2' m3' (fun σ => passAt g.takes σ) (nm_debug h3)) fun σ H Q q => ?_
      obtain ⟨S, ρ, hH, okS, m, A⟩ := key σ H Q q
      have A : ∀ v S', Step S S' → OkS G.K S' → S'.w = S.w → dna G S' v [] → spF G f v S'.H Q (WE W σ) := A
      have := A [] S (.refl S) okS rfl .nil
      rw [← hH]; exact this
    | cons _ _ => exact absurd hl Bool.false_ne_true
  | cons e es =>
    cases irs with
    | nil => exact absurd hl Bool.false_ne_true
    | cons ir irs =>
      have h' : (mE mc ir e && mEs mc irs es) = true := hl
      obtain ⟨k1, k2⟩ := Bool.and_eq_true_iff.mp h'
      exact PE.imp (pe_callS m4' g.room h1 m1' m2' m3' (fun σ => passAt g.takes σ) ha (nm_debug h3) (star_of k1 _ _) (stars_of k2 _ _)) key
theorem prim_val {p : Prim} {q : Str × Value} (h : primN p = some q) : PrimV p q.1 q.2 ∧ ((∃ id, q.2 = .builtin id ∧ bootBuiltins q.1 = some (.builtin id)) ∨ ∃ T, q.2 = .type T ∧ bootBuiltins q.1 = some (.type T)) := by
  cases p <;> first
    | (cases h; exact ⟨by constructor, .inl ⟨_, rfl, by decide +kernel⟩⟩)
    | (cases h; exact ⟨by constructor, .inr ⟨_, rfl, by decide +kernel⟩⟩)
    | (exact nomatch h)
/-- a built-in function -/
theorem prim_sound (g : Gd G X mc k W) (ok : Gok G k) {x : Str} {p : Prim} {q : Str × Value} (hq : primN p = some q) (hx : x = q.1) {irs : Es} {l : List Expr} {p1 pos : Pos} (h : freeB mc x = true) (hl : mEs mc irs l = true) (hne : l ≠ []) (ha : PA X l (tEs G W irs)) :
    PE X (.Call (.Name x p1) l [] pos) (tE G W (.prim p irs)) := by
  obtain ⟨h1, h2, h3⟩ := free_of g ok h
  obtain ⟨hv, hb⟩ := prim_val hq
  subst hx
  cases l with
  | nil => exact absurd rfl hne
  | cons e es =>
    cases irs with
    | nil => exact absurd hl Bool.false_ne_true
    | cons ir irs =>
      have h' : (mE mc ir e && mEs mc irs es) = true := hl
      obtain ⟨k1, k2⟩ := Bool.and_eq_true_iff.mp h'
      have key : ∀ σ H Q, tE G W (.prim p (.cons ir irs)) σ H Q → tCB (Rp X.K p) (tEs G W (.cons ir irs)) σ H Q := fun σ H Q ⟨S, ρ, hH, okS, m, A⟩ => by
        subst hH
        have A : Ans G W (dn G) S σ ((evEs G.F (.cons ir irs) ρ S.w).bind fun ds w => prim p ds w) Q := by
          have A := A
          unfold evE at A
          exact A
        refine tG.bind okS m A fun ds vs S1 p1 ok1 m1 hv A1 => ?_
        refine ⟨S1, ds, rfl, by rw [g.K]; exact ok1, by rw [g.K]; exact hv, ?_⟩
        rw [g.K]
        cases e : prim p ds S1.w with
        | ok d w => rw [e] at A1; exact A1
        | exc c w =>
          exfalso
          unfold prim at e
          split at e <;> first
            | (cases e; done)
            | (split at e <;> first | (cases e; done) | (split at e <;> first | (cases e; done) | (split at e <;> (cases e; done)) | (unfold Res.of at e; split at e <;> cases e; done)) | (unfold Res.of at e; split at e <;> cases e; done))
            | (unfold Res.of at e; split at e <;> cases e; done)
        | stk => rw [e] at A1; exact A1
      have hc := call_prim g.calm hv
      rcases hb with ⟨id, e1, e2⟩ | ⟨T, e1, e2⟩
      · rw [e1] at hc
        exact PE.imp (pe_callB hc h1 h2 e2 ha (nm_name h3) (nm_debug h3) (star_of k1 _ _) (stars_of k2 _ _)) key
      · rw [e1] at hc
        exact PE.imp (pe_callTy hc h1 h2 e2 ha (nm_name h3) (nm_debug h3) (star_of k1 _ _) (stars_of k2 _ _)) key
theorem Ans.intI {S : Sit} {σ : L2.St} {x : D} {f : Int → Res D} {r : Res D} {Q : VK} (A : Ans G W (dn G) S σ r Q) (e : r = match x with
    | .int i => f i
    | _ => .stk) : ∃ i, x = .int i ∧ Ans G W (dn G) S σ (f i) Q := by
  subst e
  cases x with
  | int i => exact ⟨i, rfl, A⟩
  | _ => exact A.elim
theorem den_intI {S : Sit} {v : V} {i : Int} (h : dn G S v (.int i)) : v = .int i := den_int h
end
section
variable {G : Glb} {k : Nat}
theorem con_sound {X : Cx} {W : WX} {d : D} {c : Const} {j : Nat} {pos : Pos} (h : conB d c = true) : PE X (.Constant c j pos) (tE G W (.con d)) := by
  have key : ∀ {v : V} σ H Q, (∀ S, dn G S v d) → tE G W (.con d) σ H Q → tC v σ H Q := fun {v} σ H Q hd ⟨S, ρ, hH, ok, m, A⟩ => by
    subst hH
    exact Ans.val A ok (hd S)
  cases d with
  | non =>
    cases c with
    | none => exact PE.imp pe_non fun σ H Q q => key (v := .non) σ H Q (fun _ => .non) q
    | _ => exact absurd h Bool.false_ne_true
  | bl b =>
    cases c with
    | bool b' =>
      have h : (b == b') = true := h
      rw [← beq_iff_eq.mp h]
      exact PE.imp pe_bl fun σ H Q q => key (v := .bl b) σ H Q (fun _ => .bl b) q
    | _ => exact absurd h Bool.false_ne_true
  | int i =>
    cases c with
    | int i' =>
      have h : decide (i = i') = true := h
      rw [← of_decide_eq_true h]
      exact PE.imp pe_int fun σ H Q q => key (v := .int i) σ H Q (fun _ => .int i) q
    | _ => exact absurd h Bool.false_ne_true
  | str x =>
    cases c with
    | str x' =>
      have h : (decide (x = x') && PyData.strOk x) = true := h
      obtain ⟨h1, h2⟩ := Bool.and_eq_true_iff.mp h
      rw [← of_decide_eq_true h1]
      exact PE.imp pe_str fun σ H Q q => key (v := .str x) σ H Q (fun _ => .str x h2) q
    | _ => exact absurd h Bool.false_ne_true
  | _ => cases c <;> exact absurd h Bool.false_ne_true
theorem isCon_eq {d : D} {e : E} (h : isCon d e = true) : e = .con d := by
  cases e with
  | con c =>
    have h : beqD d c = true := h
    rw [beqD_eq h]
  | _ => exact absurd h Bool.false_ne_true
/-- and, or: the chain behind the first -/
def chainR (F : Nat → List D → Wd → Res D) (isAnd : Bool) (es : Es) (ρ : Env) (x : D) (w : Wd) : Res D := match truth x with
  | some true => if isAnd then evAnd F es ρ w else .ok (.bl true) w
  | some false => if isAnd then .ok (.bl false) w else evOr F es ρ w
  | none => .stk
theorem ev_and (F : Nat → List D → Wd → Res D) (a : E) (es : Es) (ρ : Env) (w : Wd) : evE F (.and_ a es) ρ w = (evE F a ρ w).bind fun x w => chainR F true es ρ x w := by
  rw [evE]
  congr 1
theorem ev_or (F : Nat → List D → Wd → Res D) (a : E) (es : Es) (ρ : Env) (w : Wd) : evE F (.or_ a es) ρ w = (evE F a ρ w).bind fun x w => chainR F false es ρ x w := by
  rw [evE]
  congr 1
theorem ev_andc (F : Nat → List D → Wd → Res D) (e : E) (es : Es) (ρ : Env) (w : Wd) : evAnd F (.cons e es) ρ w = evE F (.and_ e es) ρ w := by rw [evAnd, evE]
theorem ev_orc (F : Nat → List D → Wd → Res D) (e : E) (es : Es) (ρ : Env) (w : Wd) : evOr F (.cons e es) ρ w = evE F (.or_ e es) ρ w := by rw [evOr, evE]
theorem chain_bl {X : Cx} {W : WX} {S : Sit} {σ : L2.St} {F : Nat → List D → Wd → Res D} {ia : Bool} {es : Es} {ρ : Env} {x : D} {w : Wd} {Q : VK} (A : Ans G W (dn G) S σ (chainR F ia es ρ x w) Q) : ∃ b, x = .bl b := by
  unfold chainR at A
  cases h : truth x with
  | none => rw [h] at A; exact A.elim
  | some b => exact ⟨b, truth_bl h⟩
def boolop (ia : Bool) : BoolOp := if ia then .And else .Or
def irB (ia : Bool) (a : E) (es : Es) : E := if ia then .and_ a es else .or_ a es
theorem ev_irB (F : Nat → List D → Wd → Res D) (ia : Bool) (a : E) (es : Es) (ρ : Env) (w : Wd) : evE F (irB ia a es) ρ w = (evE F a ρ w).bind fun x w => chainR F ia es ρ x w := by
  cases ia with
  | true => exact ev_and F a es ρ w
  | false => exact ev_or F a es ρ w
theorem chain_one {X : Cx} {W : WX} {ia : Bool} {a : E} {x : Expr} {pos : Pos} (h : PE X x (tE G W a)) (ht : PT X x (tTest (tE G W a))) :
    PE X (.BoolOp (boolop ia) [x] pos) (tE G W (irB ia a .nil)) ∧ PW X (.BoolOp (boolop ia) [x] pos) (tTest (tE G W (irB ia a .nil))) := by
  have key : ∀ σ H Q, tE G W (irB ia a .nil) σ H Q → tE G W a σ H Q := fun σ H Q ⟨S, ρ, hH, ok, m, A⟩ => by
    subst hH
    rw [ev_irB] at A
    refine tG.bind ok m A fun d v S1 p1 ok1 m1 hv A1 => ?_
    obtain ⟨b, rfl⟩ := chain_bl (X := X) A1
    cases ia <;> cases b <;> exact Ans.val A1 ok1 hv
  refine ⟨PE.imp (pe_one h) key, ?_⟩
  cases ia with
  | true => exact PW.imp (pw_and1 ht) fun σ H Q q => key _ _ _ q
  | false => exact PW.imp (pw_or1 ht) fun σ H Q q => key _ _ _ q
theorem chain_more {X : Cx} {W : WX} {ia : Bool} {a b : E} {es : Es} {x y : Expr} {l : List Expr} {pos : Pos} (h : PE X x (tE G W a)) (ht : PT X x (tTest (tE G W a)))
    (r : PE X (.BoolOp (boolop ia) (y :: l) pos) (tE G W (irB ia b es)) ∧ PW X (.BoolOp (boolop ia) (y :: l) pos) (tTest (tE G W (irB ia b es)))) :
    PE X (.BoolOp (boolop ia) (x :: y :: l) pos) (tE G W (irB ia a (.cons b es))) ∧ PW X (.BoolOp (boolop ia) (x :: y :: l) pos) (tTest (tE G W (irB ia a (.cons b es)))) := by
  -- behind the first
  have key : ∀ {S ρ σ Q}, OkS G.K S → Mt G S ρ σ → Ans G W (dn G) S σ (evE G.F (irB ia a (.cons b es)) ρ S.w) Q → tE G W a σ S.H fun v H1 => ∃ c, v = .bl c ∧ ∃ S1, S1.H = H1 ∧ OkS G.K S1 ∧ (c = ia → tE G W (irB ia b es) σ H1 Q) ∧ (c ≠ ia → Q (.bl c) H1) := by
    intro S ρ σ Q ok m A
    rw [ev_irB] at A
    refine tG.bind ok m A fun d v S1 p1 ok1 m1 hv A1 => ?_
    obtain ⟨c, rfl⟩ := chain_bl (X := X) A1
    refine ⟨c, den_bl hv, S1, rfl, ok1, fun e => ?_, fun e => ?_⟩
    · subst e
      refine ⟨S1, ρ, rfl, ok1, m1, ?_⟩
      cases c with
      | true =>
        have A1 : Ans G W (dn G) S1 σ (evAnd G.F (.cons b es) ρ S1.w) Q := A1
        rw [ev_andc] at A1
        exact A1
      | false =>
        have A1 : Ans G W (dn G) S1 σ (evOr G.F (.cons b es) ρ S1.w) Q := A1
        rw [ev_orc] at A1
        exact A1
    · cases c with
      | true =>
        cases ia with
        | true => exact absurd rfl e
        | false => exact Ans.val (d := .bl true) A1 ok1 (.bl true)
      | false =>
        cases ia with
        | true => exact Ans.val (d := .bl false) A1 ok1 (.bl false)
        | false => exact absurd rfl e
  cases ia with
  | true =>
    refine ⟨PE.imp (pe_and h r.1) fun σ H Q ⟨S, ρ, hH, ok, m, A⟩ => ?_, PW.imp (pw_and ht r.2) fun σ H Q ⟨S, ρ, hH, ok, m, A⟩ => ?_⟩
    · subst hH
      obtain ⟨S', ρ', e1, e2, e3, e4⟩ := key ok m A
      refine ⟨S', ρ', e1, e2, e3, ?_⟩
      revert e4
      cases evE G.F a ρ' S'.w with
      | ok d w =>
        intro e4 v S1 p ok1 hw hv
        obtain ⟨c, rfl, S2, h2, ok2, k1, k2⟩ := e4 v S1 p ok1 hw hv
        refine ⟨c, rfl, ?_⟩
        cases c with
        | true => rw [if_pos rfl]; exact k1 rfl
        | false => rw [if_neg Bool.false_ne_true]; exact k2 (fun z => nomatch z)
      | exc c w => exact id
      | stk => exact id
    · subst hH
      obtain ⟨S', ρ', e1, e2, e3, e4⟩ := key ok m A
      refine ⟨S', ρ', e1, e2, e3, ?_⟩
      revert e4
      cases evE G.F a ρ' S'.w with
      | ok d w =>
        intro e4 v S1 p ok1 hw hv
        obtain ⟨c, rfl, S2, h2, ok2, k1, k2⟩ := e4 v S1 p ok1 hw hv
        refine ⟨c, rfl, ?_⟩
        cases c with
        | true => rw [if_pos rfl]; exact k1 rfl
        | false =>
          rw [if_neg Bool.false_ne_true]
          obtain ⟨z, ez, hz⟩ := k2 (fun z => nomatch z)
          cases ez
          exact hz
      | exc c w => exact id
      | stk => exact id
  | false =>
    refine ⟨PE.imp (pe_or h r.1) fun σ H Q ⟨S, ρ, hH, ok, m, A⟩ => ?_, PW.imp (pw_or ht r.2) fun σ H Q ⟨S, ρ, hH, ok, m, A⟩ => ?_⟩
    · subst hH
      obtain ⟨S', ρ', e1, e2, e3, e4⟩ := key ok m A
      refine ⟨S', ρ', e1, e2, e3, ?_⟩
      revert e4
      cases evE G.F a ρ' S'.w with
      | ok d w =>
        intro e4 v S1 p ok1 hw hv
        obtain ⟨c, rfl, S2, h2, ok2, k1, k2⟩ := e4 v S1 p ok1 hw hv
        refine ⟨c, rfl, ?_⟩
        cases c with
        | true => rw [if_pos rfl]; exact k2 (fun z => nomatch z)
        | false => rw [if_neg Bool.false_ne_true]; exact k1 rfl
      | exc c w => exact id
      | stk => exact id
    · subst hH
      obtain ⟨S', ρ', e1, e2, e3, e4⟩ := key ok m A
      refine ⟨S', ρ', e1, e2, e3, ?_⟩
      revert e4
      cases evE G.F a ρ' S'.w with
      | ok d w =>
        intro e4 v S1 p ok1 hw hv
        obtain ⟨c, rfl, S2, h2, ok2, k1, k2⟩ := e4 v S1 p ok1 hw hv
        refine ⟨c, rfl, ?_⟩
        cases c with
        | true =>
          rw [if_pos rfl]
          obtain ⟨z, ez, hz⟩ := k2 (fun z => nomatch z)
          cases ez
          exact hz
        | false => rw [if_neg Bool.false_ne_true]; exact k1 rfl
      | exc c w => exact id
      | stk => exact id
end
end Ir
namespace Ir
open PySem PySem.Spec PyProof.Rows L2
section
variable {G : Glb} {k : Nat}
theorem OpR.chg {X : Cx} {K : PySem.W.Frag} {f : Value → Value → Sem Value} {r : PySem.W.Frag → R2} (e : X.K = K) (h : OpR X f (r X.K)) : OpR X f (r K) := by rw [← e]; exact h
theorem base_of {e : Expr} (h : baseB e = true) (nm : Str) (env : PySem.Env) : attributeBase e nm env (eval e env) = eval e env := by
  unfold baseB at h
  split at h
  · exact absurd h Bool.false_ne_true
  · rename_i hn
    unfold attributeBase
    split
    · rename_i id p pos
      exact absurd rfl (hn id p pos)
    · rfl
theorem lastM {op op' : CmpOp} {a b : Expr} (h : behindInMarks op' b = false) : lastMarks [op, op'] [a, b] = false := by
  rw [lastMarks, lastMarks]
  · exact h
  all_goals first | (intros; simp_all; done) | skip
theorem bin_sound {X : Cx} {mc : MC} {W : WX} (g : Gd G X mc k W) {f : D → D → Wd → Option D} {a b : E} (ev : Env → Wd → Res D)
    (he : ∀ ρ w, ev ρ w = (evE G.F a ρ w).bind fun x w => (evE G.F b ρ w).bind fun y w => .of (f x y w) w) : ∀ σ H Q, tG G W (dn G) ev σ H Q → tOp (Rb X.K f) (tE G W a) (tE G W b) σ H Q := by
  intro σ H Q ⟨S, ρ, hH, ok, m, A⟩
  subst hH
  rw [he] at A
  refine tG.bind ok m A fun x v S1 p1 ok1 m1 hv A1 => tG.bind ok1 m1 A1 fun y u S2 p2 ok2 m2 hu A2 => ?_
  refine ⟨S2, x, y, rfl, by rw [g.K]; exact ok2, by rw [g.K]; exact Den.step hv p2, by rw [g.K]; exact hu, ?_⟩
  rw [g.K]
  exact Ans.of A2
theorem plain_test {X : Cx} {e : Expr} {t : TE} (h : PE X e t) (he : ∀ whole, isTrue e X.env whole = (do let v ← whole; standAt e.pos; holding [v] (truthy v))) : PE X e t ∧ PT X e (tTest t) := ⟨h, pt_val h he⟩

/-! ### bounds of a slice -/
def tBd (G : Glb) (W : WX) (p : Bool) (lo : E) : TO := fun σ H Q => tE G W lo σ H fun v H1 => (p = false ∧ Q none H1) ∨ (p = true ∧ ∃ i, v = .int i ∧ Q (some i) H1)
theorem PO.imp {X : Cx} {e : Option Expr} {t t' : TO} (h : PO X e t) (k : ∀ σ H Q, t' σ H Q → t σ H Q) : PO X e t' := ⟨fun pins s σ H Q I q => h.run pins s σ H Q I (k _ _ _ q)⟩
theorem po_no {X : Cx} {W : WX} : PO X none (tBd G W false (.con .non)) := PO.imp po_none fun σ H Q ⟨S, ρ, hH, ok, m, A⟩ => by
  subst hH
  rcases Ans.val (d := .non) A ok .non with ⟨_, q⟩ | ⟨z, _⟩
  · exact q
  · cases z
theorem po_at {X : Cx} {W : WX} {lo : E} {y : Expr} (h : PE X y (tE G W lo)) : PO X (some y) (tBd G W true lo) := PO.imp (po_some h) fun σ H Q ⟨S, ρ, hH, ok, m, A⟩ => by
  refine ⟨S, ρ, hH, ok, m, ?_⟩
  revert A
  cases evE G.F lo ρ S.w with
  | ok d w =>
    intro A v S1 p ok1 hw hv
    rcases A v S1 p ok1 hw hv with ⟨z, _⟩ | ⟨_, i, rfl, q⟩
    · cases z
    · exact ⟨i, rfl, q⟩
  | exc c w => exact id
  | stk => exact id
theorem slc_key {X : Cx} {mc : MC} {W : WX} (g : Gd G X mc k W) {p q : Bool} {a lo hi : E} : ∀ σ H Q, tE G W (.slc p q a lo hi) σ H Q → tSl (Rsl X.K) (tE G W a) (tBd G W p lo) (tBd G W q hi) σ H Q := by
  intro σ H Q ⟨S, ρ, hH, ok, m, A⟩
  subst hH
  rw [evE] at A
  refine tG.bind ok m A fun x v S1 p1 ok1 m1 hv A1 => tG.bind ok1 m1 A1 fun l lv S2 p2 ok2 m2 hl A2 => ?_
  have up : ∀ l', bnd p l = some l' → tBd G W q hi σ S2.H fun u H3 => Rsl X.K v l' u H3 Q := by
    intro l' e1
    rw [e1] at A2
    refine tG.bind ok2 m2 A2 fun hd hv' S3 p3 ok3 m3 hh A3 => ?_
    have fin : ∀ h', bnd q hd = some h' → Rsl X.K v l' h' S3.H Q := by
      intro h' e2
      rw [e2] at A3
      refine ⟨S3, x, rfl, by rw [g.K]; exact ok3, by rw [g.K]; exact Den.step (Den.step hv p2) p3, ?_⟩
      rw [g.K]
      have A3 : AnsV G.K S3 (slcD x l' h' S3.w) Q := Ans.of A3
      exact A3
    cases q with
    | false => exact .inl ⟨rfl, fin none rfl⟩
    | true =>
      cases hd with
      | int i => exact .inr ⟨rfl, i, den_int hh, fin (some i) rfl⟩
      | _ => exact A3.elim
  cases p with
  | false => exact .inl ⟨rfl, up none rfl⟩
  | true =>
    cases l with
    | int i => exact .inr ⟨rfl, i, den_int hl, up (some i) rfl⟩
    | _ => exact A2.elim

/-! ### isinstance, list(range(..)), methods -/
theorem units1 {A : Around} (r : Room k A) : A.units + 1 < cLine := by have := r.un; omega
theorem units65 {A : Around} (r : Room k A) : A.units + 65 < cLine := by have := r.un; omega
theorem ev_meth1 (F : Nat → List D → Wd → Res D) (m : Mth) (a b : E) (ρ : Env) (w : Wd) : evE F (.meth m a (.cons b .nil)) ρ w = (evE F a ρ w).bind fun x w => if recvB m x w then (evE F b ρ w).bind fun y w => meth m x [y] w else .stk := by
  rw [evE]
  congr 1
  funext x w
  rw [evEs]
  cases evE F b ρ w <;> simp [evEs]

theorem PRg.imp {X : Cx} {e : Expr} {t t' : L2.St → Hp → (Int → Int → Hp → Prop) → Prop} (h : PRg X e t) (q : ∀ σ H Q, t' σ H Q → t σ H Q) : PRg X e t' := fun pins s σ H Q I z => h pins s σ H Q I (q _ _ _ z)
theorem isi_sound {X : Cx} {mc : MC} {W : WX} (g : Gd G X mc k W) (ok : Gok G k) {x z : Str} {t : Ty} {a : E} {y : Expr} {xp zp pos : Pos} (hx : x = "isinstance") (h1 : freeB mc x = true) (ha : mE mc a y = true) (ih : PE X y (tE G W a)) (hz : z = tyN t) (h2 : freeB mc z = true) :
    PE X (.Call (.Name x xp) [y, .Name z zp] [] pos) (tE G W (.isi t a)) := by
  subst hx hz
  obtain ⟨g1, f1, n1⟩ := free_of g ok h1
  obtain ⟨g2, f2, n2⟩ := free_of g ok h2
  have hb : bootBuiltins (tyN t) = some (.type t.nm) := by cases t <;> decide +kernel
  have hty : PE X (.Name (tyN t) zp) (tC (.ty t.nm)) := pe_bltn g2 f2 hb rfl (nm_name n2) (nm_debug n2)
  refine PE.imp (pe_callB (call_is t) g1 f1 (by decide +kernel) (pa_cons ih (pa_cons hty pa_nil) (star_of ha _ _)) (nm_name n1) (nm_debug n1) (star_of ha _ _) rfl) fun σ H Q ⟨S, ρ, hH, okS, m, A⟩ => ?_
  subst hH
  rw [evE] at A
  refine tG.bind okS m (Q := Q) (f := fun d w => prim (.isi t) [d] w) (R := fun v H1 => tCons (tC (.ty t.nm)) tNil σ H1 fun vs H2 => Ris X.K t (v :: vs) H2 Q) A fun d v S1 p1 ok1 m1 hv A1 => ?_
  · refine ⟨S1, d, v, rfl, by rw [g.K]; exact ok1, rfl, by rw [g.K]; exact hv, ?_⟩
    rw [g.K]
    exact Ans.of A1
theorem rangeL_V (lo : Int) (n : Nat) {I : Hp} {L : List Addr} : ∀ m, DenA G.K I L ((List.range n).map fun i => V.int (lo + m + (i : Nat))) (rangeL (lo + m) 1 n) := by
  induction n with
  | zero => intro m; exact .nil
  | succ n ih =>
    intro m
    rw [List.range_succ_eq_map, List.map_cons, List.map_map, rangeL]
    refine .cons (by rw [Int.natCast_zero, Int.add_zero]; exact .int _) ?_
    have e := ih (m + 1)
    have e1 : (fun i : Nat => V.int (lo + m + (i : Nat))) ∘ Nat.succ = fun i : Nat => V.int (lo + (m + 1) + (i : Nat)) := by
      funext i
      show V.int (lo + m + ((i + 1 : Nat) : Int)) = V.int (lo + (m + 1) + (i : Nat))
      congr 1
      omega
    rw [e1]
    have e2 : lo + m + 1 = lo + (m + 1) := by omega
    rw [e2]
    exact e
theorem rgV_den (a b : Int) {I : Hp} {L : List Addr} : DenA G.K I L (rgV a b) (rangeL a 1 (b - a).toNat) := by
  have e := rangeL_V (G := G) a (b - a).toNat (I := I) (L := L) 0
  rw [Int.add_zero] at e
  exact e
theorem rgOk_of {i : Int} (h : rgOk i = true) : -(2 ^ 62) ≤ i ∧ i < 2 ^ 62 := by
  unfold rgOk at h
  simp only [Bool.and_eq_true, decide_eq_true_eq] at h
  omega
theorem listR_fin {S : Sit} {σ : L2.St} {W : WX} {Q : VK} {i j : Int} (A : Ans G W (dn G) S σ (if (rgOk i && rgOk j && decide ((j - i).toNat ≤ line)) = true then .ok (.lst (rangeL i 1 (j - i).toNat)) S.w else .stk) Q) (ok : OkS G.K S) :
    RgOk i j ∧ ∀ q, S.H q = none → Q (.ref q) (upd S.H q (.lst (rgV i j))) := by
  by_cases h : (rgOk i && rgOk j && decide ((j - i).toNat ≤ line)) = true
  · rw [if_pos h] at A
    simp only [Bool.and_eq_true, decide_eq_true_eq] at h
    obtain ⟨⟨h1, h2⟩, h3⟩ := h
    have r1 := rgOk_of h1
    have r2 := rgOk_of h2
    exact ⟨⟨r1.1, r1.2, r2.1, r2.2, h3⟩, fun q hq => AnsV.newL (K := G.K) A ok (rgV_den i j) q hq⟩
  · rw [if_neg h] at A; exact A.elim
theorem listR1_sound {X : Cx} {mc : MC} {W : WX} (g : Gd G X mc k W) (ok : Gok G k) {x z : Str} {a : E} {y : Expr} {xp zp pos zpos : Pos} (hx : x = "list") (h1 : freeB mc x = true) (hz : z = "range") (h2 : freeB mc z = true) (ha : mE mc a y = true) (ih : PE X y (tE G W a)) :
    PE X (.Call (.Name x xp) [.Call (.Name z zp) [y] [] zpos] [] pos) (tE G W (.lr1 a)) := by
  subst hx hz
  obtain ⟨g1, f1, n1⟩ := free_of g ok h1
  obtain ⟨g2, f2, n2⟩ := free_of g ok h2
  refine PE.imp (pe_listRg g.calm g1 f1 (prg_1 g2 f2 ih (star_of ha _ _))) fun σ H Q ⟨S, ρ, hH, okS, m, A⟩ => ?_
  subst hH
  rw [evE] at A
  refine tG.bind okS m (Q := Q) (f := fun d w => prim (.listR false) [d] w) (R := fun (x : V) H1 => ∃ n, x = V.int n ∧ (RgOk 0 n ∧ ∀ q, H1 q = none → Q (.ref q) (upd H1 q (.lst (rgV 0 n))))) A fun d v S1 p1 ok1 m1 hv A1 => ?_
  · cases d with
    | int j =>
      refine ⟨j, den_int hv, listR_fin (i := 0) (σ := σ) (W := W) ?_ ok1⟩
      have A1 : Ans G W (dn G) S1 σ (if (rgOk j && decide (j.toNat ≤ line)) = true then .ok (.lst (rangeL 0 1 j.toNat)) S1.w else .stk) Q := A1
      have e0 : rgOk 0 = true := by decide
      rw [e0, Bool.true_and, Int.sub_zero]
      exact A1
    | _ => exact A1.elim
theorem listR2_sound {X : Cx} {mc : MC} {W : WX} (g : Gd G X mc k W) (ok : Gok G k) {x z : Str} {a b : E} {y y' : Expr} {xp zp pos zpos : Pos} (hx : x = "list") (h1 : freeB mc x = true) (hz : z = "range") (h2 : freeB mc z = true) (ha : mE mc a y = true) (hb : mE mc b y' = true) (ih : PE X y (tE G W a)) (ih' : PE X y' (tE G W b)) :
    PE X (.Call (.Name x xp) [.Call (.Name z zp) [y, y'] [] zpos] [] pos) (tE G W (.lr2 a b)) := by
  subst hx hz
  obtain ⟨g1, f1, n1⟩ := free_of g ok h1
  obtain ⟨g2, f2, n2⟩ := free_of g ok h2
  refine PE.imp (pe_listRg g.calm g1 f1 (prg_2 g2 f2 ih ih' (star_of ha _ _) (star_of hb _ _) (by rw [star_of hb]; rfl))) fun σ H Q ⟨S, ρ, hH, okS, m, A⟩ => ?_
  subst hH
  rw [evE] at A
  refine tG.bind okS m (Q := Q) (f := fun d w => (evE G.F b ρ w).bind fun d' w => prim (.listR true) [d, d'] w) (R := fun (x : V) H1 => tE G W b σ H1 fun (y : V) H2 => ∃ i j, x = V.int i ∧ y = V.int j ∧ (RgOk i j ∧ ∀ q, H2 q = none → Q (.ref q) (upd H2 q (.lst (rgV i j))))) A fun d v S1 p1 ok1 m1 hv A1 => ?_
  · refine tG.bind ok1 m1 A1 fun d' v' S2 p2 ok2 m2 hv' A2 => ?_
    cases d with
    | int i =>
      cases d' with
      | int j => exact ⟨i, j, den_int hv, den_int hv', listR_fin (i := i) (σ := σ) (W := W) A2 ok2⟩
      | _ => exact A2.elim
    | _ => exact A2.elim
theorem AnsR.ofAns {S : Sit} {σ : L2.St} {W : WX} {r : Res D} {Q : VK} (A : Ans G W (dn G) S σ r Q) (h : ∀ c w, r ≠ .exc c w) : AnsR G.K S r Q := by
  cases r with
  | ok d w => exact A
  | exc c w => exact absurd rfl (h c w)
  | stk => exact A
theorem of_noexc {α : Type} {o : Option α} {w : Wd} (c : Nat) (w' : Wd) : (Res.of o w : Res α) ≠ .exc c w' := by cases o <;> exact fun z => nomatch z
theorem meth_noexc {m : Mth} {x y : D} {w : Wd} (c : Nat) (w' : Wd) : meth m x [y] w ≠ .exc c w' := by
  cases m with
  | append =>
    unfold meth
    cases x with
    | loc n =>
      show (match w[n]? with
        | some (.lst xs) => if xs.length < line then Res.ok D.non (w.set n (.lst (xs ++ [y]))) else .stk
        | _ => .stk) ≠ .exc c w'
      cases w[n]? with
      | none => exact fun z => nomatch z
      | some cc => cases cc with
        | lst xs =>
          show (if xs.length < line then Res.ok D.non (w.set n (.lst (xs ++ [y]))) else .stk) ≠ .exc c w'
          split <;> exact fun z => nomatch z
        | _ => exact fun z => nomatch z
    | _ => exact fun z => nomatch z
  | index =>
    unfold meth
    show (match dr w x with
      | some (.lst xs) => match memD y xs with
        | some _ => Res.of ((idxD y xs).map fun j => D.int j) w
        | none => .stk
      | _ => .stk) ≠ .exc c w'
    cases dr w x with
    | none => exact fun z => nomatch z
    | some d => cases d with
      | lst xs =>
        show (match memD y xs with
          | some _ => Res.of ((idxD y xs).map fun j => D.int j) w
          | none => .stk) ≠ .exc c w'
        cases memD y xs with
        | none => exact fun z => nomatch z
        | some _ => exact of_noexc c w'
      | _ => exact fun z => nomatch z
  | _ => exact fun z => nomatch z
/-- the receiver is a list: its methods -/
theorem lst_ty {S : Sit} {v : V} {d : D} (ok : OkS G.K S) (h : dn G S v d) {xs : List D} (e : dr S.w d = some (.lst xs)) : tyV G.K "list" v S.H := by
  obtain ⟨a, vs, rfl, h1, _⟩ := lst_of ok h e
  exact .inl ⟨rfl, vs, .of h1⟩
theorem meth_sound {X : Cx} {mc : MC} {W : WX} (g : Gd G X mc k W) {m : Mth} {a b : E} {x y : Expr} {name : Str} {apos pos : Pos} (ia : PE X x (tE G W a)) (ib : PE X y (tE G W b)) (hb : mE mc b y = true) (h1 : baseB x = true) (h2 : lineB apos pos = true)
    (h3 : (match m with
      | .append => decide (name = "append")
      | .index => decide (name = "index")
      | _ => false) = true) : PE X (.Call (.Attribute x name apos) [y] [] pos) (tE G W (.meth m a (.cons b .nil))) := by
  have key : ∀ σ H Q, tE G W (.meth m a (.cons b .nil)) σ H Q → tBM X.K "list" (Rm X.K m) (tE G W a) (tCons (tE G W b) tNil) σ H Q := by
    intro σ H Q ⟨S, ρ, hH, okS, mt, A⟩
    subst hH
    rw [ev_meth1] at A
    refine tG.bind okS mt A fun d v S1 p1 ok1 m1 hv A1 => ?_
    by_cases hr : recvB m d S1.w = true
    · rw [if_pos hr] at A1
      have hl : ∃ xs, dr S1.w d = some (.lst xs) := by
        unfold recvB at hr
        cases q : dr S1.w d with
        | none => rw [q] at hr; exact absurd hr Bool.false_ne_true
        | some d' =>
          rw [q] at hr
          cases d' with
          | lst xs => exact ⟨xs, rfl⟩
          | dct _ _ =>
            cases m with
            | append => exact absurd hr Bool.false_ne_true
            | index => exact absurd hr Bool.false_ne_true
            | _ => exact absurd h3 Bool.false_ne_true
          | _ => exact absurd hr Bool.false_ne_true
      obtain ⟨xs, hxs⟩ := hl
      refine ⟨by rw [g.K]; exact lst_ty ok1 hv hxs, ?_⟩
      refine tG.bind ok1 m1 A1 fun d' v' S2 p2 ok2 m2 hv' A2 => ?_
      refine ⟨S2, d, [d'], rfl, by rw [g.K]; exact ok2, by rw [g.K]; exact Den.step hv p2, by rw [g.K]; exact .cons hv' .nil, ?_⟩
      rw [g.K]
      exact AnsR.ofAns A2 meth_noexc
    · rw [if_neg hr] at A1; exact A1.elim
  have hfew : ((backTo pos (starEach [y] X.env)).all (fun x => !x.1) && (backToKw pos (keywordEach [] X.env)).all (fun x => x.1.isSome)
      && decide (([y] : List Expr).length + ([] : List Keyword).length + (if ([] : List Keyword).isEmpty then 0 else 1) < 30)) = true := by rw [star_of hb]; rfl
  cases m with
  | append =>
    have e := of_decide_eq_true h3
    subst e
    exact PE.imp (pe_bm PySem.F.plainAttrs_list PySem.F.slot_list_append PySem.F.type_list_append mt_app ia (pa_cons ib pa_nil (star_of hb _ _)) (base_of h1 _ _) hfew h2 (star_of hb _ _) rfl) key
  | index =>
    have e := of_decide_eq_true h3
    subst e
    exact PE.imp (pe_bm PySem.F.plainAttrs_list PySem.F.slot_list_index PySem.F.type_list_index (mt_idx (units65 g.room)) ia (pa_cons ib pa_nil (star_of hb _ _)) (base_of h1 _ _) hfew h2 (star_of hb _ _) rfl) key
  | _ => exact absurd h3 Bool.false_ne_true

/-! ### displays of dicts -/
theorem con_val {d : D} {c : Const} (h : conB d c = true) : ∃ v, (∀ K I L, Den K I L v d) ∧ ∀ (X : Cx) (j : Nat) (pos : Pos), PE X (.Constant c j pos) (tC v) := by
  cases d with
  | non =>
    cases c with
    | none => exact ⟨.non, fun _ _ _ => .non, fun _ _ _ => pe_non⟩
    | _ => exact absurd h Bool.false_ne_true
  | bl b =>
    cases c with
    | bool b' =>
      have h : (b == b') = true := h
      rw [← beq_iff_eq.mp h]
      exact ⟨.bl b, fun _ _ _ => .bl b, fun _ _ _ => pe_bl⟩
    | _ => exact absurd h Bool.false_ne_true
  | int i =>
    cases c with
    | int i' =>
      have h : decide (i = i') = true := h
      rw [← of_decide_eq_true h]
      exact ⟨.int i, fun _ _ _ => .int i, fun _ _ _ => pe_int⟩
    | _ => exact absurd h Bool.false_ne_true
  | str x =>
    cases c with
    | str x' =>
      have h : (decide (x = x') && PyData.strOk x) = true := h
      obtain ⟨h1, h2⟩ := Bool.and_eq_true_iff.mp h
      rw [← of_decide_eq_true h1]
      exact ⟨.str x, fun _ _ _ => .str x h2, fun _ _ _ => pe_str⟩
    | _ => exact absurd h Bool.false_ne_true
  | _ => cases c <;> exact absurd h Bool.false_ne_true
theorem dsp_form {X : Cx} {pos : Pos} : ∀ {ks vs : List D} {es : List (Option Expr)} {us : List Expr}, dspB ks vs es us = true →
    ∃ (kvs : List (Key × V)) (trs : List (TE × TE)), ks = kvs.map (fun kv => keyD kv.1) ∧ (∀ K I L, DenA K I L (kvs.map (·.2)) vs) ∧ PPs X pos es us trs ∧ (∀ σ H (Q : List (V × V) → Hp → Prop), Q (kvs.map fun kv => (kV kv.1, kv.2)) H → tPairs trs σ H Q) ∧
      es.all (·.isSome) = true ∧ es.length = us.length ∧ es.length = ks.length
  | [], [], [], [], _ => ⟨[], [], rfl, fun _ _ _ => .nil, pps_nil, fun _ _ _ q => q, rfl, rfl, rfl⟩
  | k :: ks, v :: vs, some (.Constant c j p) :: es, .Constant d j' p' :: us, h => by
    have h : (keyB k && conB k c && conB v d && dspB ks vs es us) = true := h
    simp only [Bool.and_eq_true] at h
    obtain ⟨⟨⟨h1, h2⟩, h3⟩, h4⟩ := h
    obtain ⟨kvs, trs, e1, e2, e3, e4, e5, e6, e7⟩ := dsp_form (X := X) (pos := pos) h4
    obtain ⟨kv, dk, pk⟩ := con_val h2
    obtain ⟨vv, dv, pv⟩ := con_val h3
    obtain ⟨kk, rfl, rfl⟩ := key_den (dk X.K (fun _ => none) []) h1
    exact ⟨(kk, vv) :: kvs, (tC (kV kk), tC vv) :: trs, by rw [e1]; rfl, fun K I L => .cons (dv K I L) (e2 K I L), pps_cons (pk X j p) (pv X j' p') e3, fun σ H Q q => e4 σ H _ q, e5, by rw [List.length_cons, List.length_cons, e6], by rw [List.length_cons, List.length_cons, e7]⟩
theorem nodup_val : ∀ {kvs : List (Key × V)} {k : Key}, (kvs.map fun kv => keyD kv.1).all (fun j => !keyE j (keyD k)) = true → valV kvs k = none
  | [], _, _ => rfl
  | (q, u) :: kvs, k, h => by
    rw [List.map_cons, List.all_cons, Bool.and_eq_true] at h
    have hq : ¬ q = k := by
      intro z
      subst z
      have : keyE (keyD q) (keyD q) = true := by cases q <;> simp [keyD, keyE]
      rw [this] at h
      exact absurd h.1 Bool.false_ne_true
    rw [valV_neg hq]
    exact nodup_val h.2
theorem keyE_comm (a b : D) : keyE a b = keyE b a := by
  cases a <;> cases b <;> simp [keyE, eq_comm]
theorem merge_new : ∀ (more acc : List (Key × V)), nodupK (more.map fun kv => keyD kv.1) = true → (∀ kv ∈ more, (acc.map fun a => keyD a.1).all (fun j => !keyE j (keyD kv.1)) = true) → mergeK acc more = acc ++ more
  | [], acc, _, _ => by rw [List.append_nil]; rfl
  | (k, v) :: more, acc, h, ha => by
    rw [List.map_cons, nodupK, Bool.and_eq_true] at h
    have e : putK acc k v = acc ++ [(k, v)] := putK_new v (nodup_val (ha (k, v) (List.mem_cons_self ..)))
    show mergeK (putK acc k v) more = _
    rw [e, merge_new more (acc ++ [(k, v)]) h.2 fun kv hkv => ?_, List.append_assoc, List.singleton_append]
    rw [List.map_append, List.all_append, Bool.and_eq_true]
    refine ⟨ha kv (List.mem_cons_of_mem _ hkv), ?_⟩
    have z := List.all_eq_true.mp h.1 (keyD kv.1) (List.mem_map.mpr ⟨kv, hkv, rfl⟩)
    show (!keyE (keyD k) (keyD kv.1) && true) = true
    rw [Bool.and_true]
    exact z
theorem dsp_sound {X : Cx} {mc : MC} {W : WX} (g : Gd G X mc k W) {ks vs : List D} {es : List (Option Expr)} {us : List Expr} {pos : Pos} (h : (dspB ks vs es us && nodupK ks && decide (ks.length ≤ 15) && !ks.isEmpty) = true) : PE X (.Dict es us pos) (tE G W (.dsp ks vs)) := by
  simp only [Bool.and_eq_true, decide_eq_true_eq, Bool.not_eq_true'] at h
  obtain ⟨⟨⟨h1, h2⟩, h3⟩, h4⟩ := h
  obtain ⟨kvs, trs, rfl, e2, e3, e4, e5, e6, e7⟩ := dsp_form (X := X) (pos := pos) h1
  refine PE.imp (pe_disp e3 e5 e6 (fun z => ?_) (by rw [e7]; exact h3)) fun σ H Q ⟨S, ρ, hH, okS, m, A⟩ => ?_
  · rw [z] at e7
    cases kvs with
    | nil => exact absurd h4 (by decide)
    | cons _ _ => simp at e7
  · subst hH
    intro p hp
    have hm : mergeK [] kvs = kvs := by
      have := merge_new kvs [] h2 (fun kv _ => rfl)
      simpa using this
    refine e4 σ _ _ ⟨upd_same, kvs, rfl, by simpa using h3, ?_⟩
    rw [hm, upd_upd]
    have A : Ans G W (dn G) S σ (.ok (.dct (kvs.map fun kv => keyD kv.1) vs) S.w) Q := A
    exact A (.ref p) (S.new p (.dK kvs)) (step_new okS hp) (ok_new okS hp) rfl (.dct (show upd S.I p (.dK kvs) p = _ from upd_same) rfl (e2 _ _ _))
/-! ### comprehensions, walks -/
theorem lc_form {mc : MC} {cell : Bool} {t : Tg} {it : It} {c elt : E} {e : Expr} (h : mE mc (.lc cell t it c elt) e = true) : ∃ elt' tg iter ifs scope pos, e = .ListComp elt' [⟨tg, iter, ifs, 0⟩] scope pos ∧
    mIt mc it (tupB tg) iter = true ∧ blkB mc scope (tgS t) = true ∧ mT (blkMC mc scope) t tg = true ∧ ((ifs = [] ∧ c = .con (.bl true)) ∨ ∃ i, ifs = [i] ∧ mE (blkMC mc scope) c i = true) ∧ mE (blkMC mc scope) elt elt' = true := by
  cases e with
  | ListComp elt' gs scope pos =>
    cases gs with
    | nil => exact absurd h Bool.false_ne_true
    | cons g gs =>
      obtain ⟨tg, iter, ifs, asy⟩ := g
      cases gs with
      | cons _ _ => exact absurd h Bool.false_ne_true
      | nil =>
        have h : (decide (asy = 0) && mIt mc it (tupB tg) iter && blkB mc scope (tgS t) && mT (blkMC mc scope) t tg && (match (generalizing := false) ifs with
          | [] => isCon (.bl true) c
          | [i] => mE (blkMC mc scope) c i
          | _ => false) && mE (blkMC mc scope) elt elt') = true := h
        simp only [Bool.and_eq_true, decide_eq_true_eq] at h
        obtain ⟨⟨⟨⟨⟨h0, h1⟩, h2⟩, h3⟩, h4⟩, h5⟩ := h
        subst h0
        cases ifs with
        | nil => exact ⟨elt', tg, iter, [], scope, pos, rfl, h1, h2, h3, .inl ⟨rfl, isCon_eq h4⟩, h5⟩
        | cons i is =>
          cases is with
          | nil => exact ⟨elt', tg, iter, [i], scope, pos, rfl, h1, h2, h3, .inr ⟨i, rfl, h4⟩, h5⟩
          | cons _ _ => exact absurd h4 Bool.false_ne_true
  | _ => exact absurd h Bool.false_ne_true
theorem pts_con {X : Cx} {W : WX} : PTs X [] (tTest (tE G W (.con (.bl true)))) := PTs.imp pts_nil fun σ H Q ⟨S, ρ, hH, ok, m, A⟩ => by
  subst hH
  obtain ⟨b, e, q⟩ := Ans.val (d := .bl true) A ok (.bl true)
  cases e
  exact q
theorem val_key {X : Cx} {mc : MC} {W : WX} (g : Gd G X mc k W) {a : E} : ∀ σ H R, tIt G W (.val a) σ H R → tE G W a σ H fun x H1 => (∃ a, x = .ref a ∧ (∃ xs, SqL X.K H1 a xs) ∧ R (Itl X.K a) H1) ∨ ∃ a, x = .ref a ∧ (∃ xs, SqT X.K H1 a xs) ∧ R (Itt X.K a) H1 := by
  intro σ H R ⟨S, ρ, hH, ok, m, A⟩
  subst hH
  rw [evIt] at A
  refine tG.bind ok m A fun d v S1 p1 ok1 m1 hv A1 => ?_
  rw [g.K]
  have A1 : Ans G W (Wk G) S1 σ (.of (itemsD d) S1.w) R := A1
  cases hv with
  | lst h hs => exact .inl ⟨_, rfl, ⟨_, .of (ok1.sub _ _ h)⟩, A1 _ S1 (.refl S1) ok1 rfl (wk_list (.of h) hs)⟩
  | tup h hs => exact .inr ⟨_, rfl, ⟨_, Same_seqT ok1.sub h⟩, A1 _ S1 (.refl S1) ok1 rfl (wk_tup h hs)⟩
  | scr h => exact .inl ⟨_, rfl, ⟨_, ok1.sub.seq h⟩, A1 _ S1 (.refl S1) ok1 rfl (wk_list h (DenA.ofInts _))⟩
  | _ => exact A1.elim
theorem rng_one {S : Sit} {σ : L2.St} {W : WX} {R : L2.It → Hp → Prop} {i j : Int} (A : Ans G W (Wk G) S σ (.of (if (rgOk i && rgOk j) = true then some (rangeL i 1 (j - i).toNat) else none) S.w) R) (ok : OkS G.K S) :
    (-(2 ^ 62) ≤ i ∧ i < 2 ^ 62 ∧ -(2 ^ 62) ≤ j ∧ j < 2 ^ 62) ∧ R (Itr i (j - i).toNat) S.H := by
  by_cases h : (rgOk i && rgOk j) = true
  · rw [if_pos h] at A
    obtain ⟨h1, h2⟩ := Bool.and_eq_true_iff.mp h
    have r1 := rgOk_of h1
    have r2 := rgOk_of h2
    exact ⟨⟨r1.1, r1.2, r2.1, r2.2⟩, A _ S (.refl S) ok rfl wk_rng⟩
  · rw [if_neg h] at A; exact A.elim
theorem rangeSize_posC {i j c : Int} (hc : 0 < c) : Builtin.Range.rangeSize i j c = ((((j - i) + (c - 1)) / c).toNat : Int) := by
  unfold Builtin.Range.rangeSize
  rw [if_pos (by omega)]
  split
  · have e : (j - i) + (c - 1) = (j - i - 1) + 1 * c := by omega
    rw [e, Int.add_mul_ediv_right _ _ (by omega)]
    have : 0 ≤ (j - i - 1) / c := Int.ediv_nonneg (by omega) (by omega)
    omega
  · have : ((j - i) + (c - 1)) / c ≤ 0 := by
      have : ((j - i) + (c - 1)) / c < 1 := Int.ediv_lt_of_lt_mul (by omega) (by omega)
      omega
    omega
theorem rngC_ok {i j c : Int} (h1 : rgOk i = true) (h2 : rgOk j = true) (h3 : 0 < c) (h4 : c < 1073741824) (h5 : (j - i).toNat < 1073741824) : RgC i j c (((j - i) + (c - 1)) / c).toNat := by
  have r1 := rgOk_of h1
  have r2 := rgOk_of h2
  have z := rangeSize_posC (i := i) (j := j) h3
  refine ⟨by omega, by omega, ?_, z⟩
  have lo : 0 ≤ Builtin.Range.rangeSize i j c := by rw [z]; omega
  have hi : Builtin.Range.rangeSize i j c < 4294967296 := by
    unfold Builtin.Range.rangeSize
    rw [if_pos (by omega)]
    split
    · have : (j - i - 1) / c ≤ j - i - 1 := Int.ediv_le_self _ (by omega)
      omega
    · omega
  unfold Builtin.Range.small
  generalize Builtin.Range.rangeSize i j c = n at *
  simp only [Builtin.Range.rangeFitsLong, Bool.and_eq_true, Bool.or_eq_true, decide_eq_true_eq, beq_iff_eq]
  rw [if_pos (by omega)]
  simp only [Bool.and_eq_true, decide_eq_true_eq]
  omega
theorem rng_sound {X : Cx} {mc : MC} {W : WX} (g : Gd G X mc k W) (ok : Gok G k) {es : Es} {l : List Expr} {tg : Expr} {zp pos : Pos} (h : freeB mc "range" = true) (hl : mEs mc es l = true) (ha : PA X l (tEs G W es)) (hn : (l.length == 1 || l.length == 2 || l.length == 3) = true) :
    PI X tg (.Call (.Name "range" zp) l [] pos) (tIt G W (.rng es)) := by
  obtain ⟨g1, f1, n1⟩ := free_of g ok h
  have key : ∀ σ H R, tIt G W (.rng es) σ H R → tEs G W es σ H fun vs H1 => ∃ S1 ds, S1.H = H1 ∧ OkS G.K S1 ∧ dna G S1 vs ds ∧ ds.length = l.length ∧ Ans G W (Wk G) S1 σ (.of (rngItems ds) S1.w) R := fun σ H R ⟨S, ρ, hH, okS, m, A⟩ => by
    subst hH
    rw [evIt] at A
    refine ⟨S, ρ, rfl, okS, m, ?_⟩
    revert A
    cases q : evEs G.F es ρ S.w with
    | ok ds w =>
      intro A vs S1 p ok1 hw hv
      subst hw
      exact ⟨S1, ds, rfl, ok1, hv, es_len hl q, Ans.step A p⟩
    | exc c w => exact id
    | stk => exact id
  match l, hl, ha, hn, key with
  | [y], hl, ha, _, key =>
    have hs : starEach [y] X.env = [(false, eval y X.env)] := by
      cases es with
      | nil => exact absurd hl Bool.false_ne_true
      | cons e es => exact star_of (Bool.and_eq_true_iff.mp (show (mE mc e y && mEs mc es []) = true from hl)).1 _ _
    refine PI.imp (pi_range1 g1 f1 ha hs) fun σ H R q => ?_
    obtain ⟨S, ρ, e1, e2, e3, e4⟩ := key σ H R q
    refine ⟨S, ρ, e1, e2, e3, ?_⟩
    revert e4
    cases evEs G.F es ρ S.w with
    | ok ds w =>
      intro e4 vs S1 p ok1 hw hv
      obtain ⟨S2, ds2, hH2, ok2, hv2, hl2, A2⟩ := e4 vs S1 p ok1 hw hv
      rw [← hH2]
      match ds2, hv2, hl2, A2 with
      | [d], hv2, _, A2 =>
        obtain ⟨v, rfl, hd⟩ := den1 hv2
        cases d with
        | int j =>
          have A2 : Ans G W (Wk G) S2 σ (.of (if rgOk j = true then some (rangeL 0 1 j.toNat) else none) S2.w) R := A2
          have A3 : Ans G W (Wk G) S2 σ (.of (if (rgOk 0 && rgOk j) = true then some (rangeL 0 1 (j - 0).toNat) else none) S2.w) R := by
            have e0 : rgOk 0 = true := by decide
            rw [e0, Bool.true_and, Int.sub_zero]; exact A2
          obtain ⟨⟨_, _, r3, r4⟩, r5⟩ := rng_one A3 ok2
          rw [Int.sub_zero] at r5
          exact ⟨j, by rw [den_int hd], r3, r4, r5⟩
        | _ => exact A2.elim
      | [], _, hl2, _ => exact absurd hl2 (by simp)
      | _ :: _ :: _, _, hl2, _ => exact absurd hl2 (by simp)
    | exc c w => exact id
    | stk => exact id
  | [y, y'], hl, ha, _, key =>
    cases es with
    | nil => exact absurd hl Bool.false_ne_true
    | cons e es =>
      obtain ⟨k1, k2⟩ := Bool.and_eq_true_iff.mp (show (mE mc e y && mEs mc es [y']) = true from hl)
      cases es with
      | nil => exact absurd k2 Bool.false_ne_true
      | cons e' es =>
        obtain ⟨k3, k4⟩ := Bool.and_eq_true_iff.mp (show (mE mc e' y' && mEs mc es []) = true from k2)
        have hs2 : starEach [y'] X.env = [(false, eval y' X.env)] := star_of k3 _ _
        have hs : starEach [y, y'] X.env = [(false, eval y X.env), (false, eval y' X.env)] := by rw [star_of k1, hs2]
        refine PI.imp (pi_range2 g1 f1 ha hs hs2) fun σ H R q => ?_
        obtain ⟨S, ρ, e1, e2, e3, e4⟩ := key σ H R q
        refine ⟨S, ρ, e1, e2, e3, ?_⟩
        revert e4
        cases evEs G.F (.cons e (.cons e' es)) ρ S.w with
        | ok ds w =>
          intro e4 vs S1 p ok1 hw hv
          obtain ⟨S2, ds2, hH2, ok2, hv2, hl2, A2⟩ := e4 vs S1 p ok1 hw hv
          rw [← hH2]
          match ds2, hv2, hl2, A2 with
          | [d, d'], hv2, _, A2 =>
            obtain ⟨v, u, rfl, hd, hd'⟩ := den2 hv2
            cases d with
            | int i =>
              cases d' with
              | int j =>
                obtain ⟨r1, r5⟩ := rng_one (i := i) (j := j) A2 ok2
                exact ⟨i, j, by rw [den_int hd, den_int hd'], r1, r5⟩
              | _ => exact A2.elim
            | _ => exact A2.elim
          | [], _, hl2, _ => exact absurd hl2 (by simp)
          | [_], _, hl2, _ => exact absurd hl2 (by simp)
          | _ :: _ :: _ :: _, _, hl2, _ => exact absurd hl2 (by simp)
        | exc c w => exact id
        | stk => exact id
  | [y, y', y''], hl, ha, _, key =>
    cases es with
    | nil => exact absurd hl Bool.false_ne_true
    | cons e es =>
      obtain ⟨k1, k2⟩ := Bool.and_eq_true_iff.mp (show (mE mc e y && mEs mc es [y', y'']) = true from hl)
      refine PI.imp (pi_range3 g1 f1 ha (star_of k1 _ _) (stars_of k2 _ _)) fun σ H R q => ?_
      obtain ⟨S, ρ, e1, e2, e3, e4⟩ := key σ H R q
      refine ⟨S, ρ, e1, e2, e3, ?_⟩
      revert e4
      cases evEs G.F (.cons e es) ρ S.w with
      | ok ds w =>
        intro e4 vs S1 p ok1 hw hv
        obtain ⟨S2, ds2, hH2, ok2, hv2, hl2, A2⟩ := e4 vs S1 p ok1 hw hv
        rw [← hH2]
        match ds2, hv2, hl2, A2 with
        | [d, d', d''], hv2, _, A2 =>
          cases hv2 with
          | cons hd hv2 =>
            obtain ⟨v, u, rfl, hd', hd''⟩ := den2 hv2
            cases d with
            | int i =>
              cases d' with
              | int j =>
                cases d'' with
                | int c =>
                  have A2 : Ans G W (Wk G) S2 σ (.of (if (rgOk i && rgOk j && decide (0 < c) && decide (c < 1073741824) && decide ((j - i).toNat < 1073741824)) = true then some (rangeL i c (((j - i) + (c - 1)) / c).toNat) else none) S2.w) R := A2
                  by_cases hz : (rgOk i && rgOk j && decide (0 < c) && decide (c < 1073741824) && decide ((j - i).toNat < 1073741824)) = true
                  · rw [if_pos hz] at A2
                    simp only [Bool.and_eq_true, decide_eq_true_eq] at hz
                    obtain ⟨⟨⟨⟨z1, z2⟩, z3⟩, z4⟩, z5⟩ := hz
                    exact ⟨i, j, c, _, by rw [den_int hd, den_int hd', den_int hd''], rngC_ok z1 z2 z3 z4 z5, A2 _ S2 (.refl S2) ok2 rfl wk_rngC⟩
                  · rw [if_neg hz] at A2; exact A2.elim
                | _ => exact A2.elim
              | _ => exact A2.elim
            | _ => exact A2.elim
        | [], _, hl2, _ => exact absurd hl2 (by simp)
        | [_], _, hl2, _ => exact absurd hl2 (by simp)
        | [_, _], _, hl2, _ => exact absurd hl2 (by simp)
        | _ :: _ :: _ :: _ :: _, _, hl2, _ => exact absurd hl2 (by simp)
      | exc c w => exact id
      | stk => exact id
  | [], _, _, hn, _ => exact absurd hn Bool.false_ne_true
  | _ :: _ :: _ :: _ :: _, _, _, hn, _ => exact absurd hn (by simp)
theorem itemsL_seq {S : Sit} {v : V} {d : D} {xs : List D} (ok : OkS G.K S) (hv : dn G S v d) (h : itemsL d = some xs) : ∃ a vs, v = .ref a ∧ SqL G.K S.I a vs ∧ dna G S vs xs := by
  cases hv with
  | lst q hs => cases h; exact ⟨_, _, rfl, .of q, hs⟩
  | scr q => cases h; exact ⟨_, _, rfl, q, DenA.ofInts _⟩
  | _ => cases h
theorem enumD_len : ∀ (xs : List D) (m : Nat), (enumD m xs).length = xs.length
  | [], _ => rfl
  | _ :: xs, m => by rw [enumD, List.length_cons, enumD_len xs, List.length_cons]
theorem enumD_get : ∀ (xs : List D) (m i : Nat) (d : D), (enumD m xs)[i]? = some d → ∃ x, xs[i]? = some x ∧ d = .tup [.int ((m + i : Nat) : Int), x]
  | [], _, _, _, h => by simp [enumD] at h
  | x :: xs, m, 0, d, h => by
    simp only [enumD, List.getElem?_cons_zero, Option.some.injEq] at h
    exact ⟨x, rfl, h.symm⟩
  | x :: xs, m, i + 1, d, h => by
    simp only [enumD, List.getElem?_cons_succ] at h
    obtain ⟨y, h1, h2⟩ := enumD_get xs (m + 1) i d h
    exact ⟨y, by simpa using h1, by rw [h2]; congr 3; omega⟩
theorem zipD_get : ∀ (xs ys : List D) (i : Nat), (∀ d, (zipD xs ys)[i]? = some d → ∃ x y, xs[i]? = some x ∧ ys[i]? = some y ∧ d = .tup [x, y]) ∧ ((zipD xs ys).length ≤ i → xs.length ≤ i ∨ ys.length ≤ i)
  | [], ys, i => ⟨fun d h => by simp [zipD] at h, fun _ => .inl (Nat.zero_le _)⟩
  | x :: xs, [], i => ⟨fun d h => by simp [zipD] at h, fun _ => .inr (Nat.zero_le _)⟩
  | x :: xs, y :: ys, 0 => ⟨fun d h => ⟨x, y, rfl, rfl, by simpa [zipD] using h.symm⟩, fun h => by simp [zipD] at h⟩
  | x :: xs, y :: ys, i + 1 => by
    obtain ⟨h1, h2⟩ := zipD_get xs ys i
    refine ⟨fun d h => h1 d (by simpa [zipD] using h), fun h => ?_⟩
    have := h2 (by simpa [zipD] using h)
    simpa using this
theorem pair_new {S : Sit} (ok : OkS G.K S) {T : Addr} {x y : V} {dx dy : D} (hT : S.H T = none) (hx : dn G S x dx) (hy : dn G S y dy) :
    ∃ S'', Step S S'' ∧ OkS G.K S'' ∧ S''.w = S.w ∧ S''.H = upd S.H T (.tup [x, y]) ∧ dn G S'' (.ref T) (.tup [dx, dy]) := by
  have st := step_new ok (o := .tup [x, y]) hT
  exact ⟨S.new T (.tup [x, y]), st, ok_new ok hT, rfl, rfl, .tup (vs := [x, y]) (.of (show upd S.I T (.tup [x, y]) T = _ from upd_same)) (.cons (Den.step hx st) (.cons (Den.step hy st) .nil))⟩
theorem wk_enum {S : Sit} {a : Addr} {vs : List V} {ds : List D} (h : SqL G.K S.I a vs) (hd : dna G S vs ds) : Wk G S (Ite G.K a) (enumD 0 ds) := by
  intro S' p ok i
  have hs : SqL G.K S'.H a vs := ok.sub.seq (p.I.seq h)
  refine ⟨fun d hi => ?_, fun hi => ⟨vs, hs, by rw [DenA.length hd]; rw [enumD_len] at hi; exact hi⟩⟩
  obtain ⟨x, hx, rfl⟩ := enumD_get ds 0 i d hi
  obtain ⟨v, hv, hdv⟩ := DenA.get hd hx
  refine ⟨⟨vs, v, hs, hv⟩, fun y H' ⟨T, z, e1, e2, e3, e4⟩ => ?_⟩
  have e5 := e4 vs hs
  rw [hv] at e5
  cases e5
  subst e1
  rw [e3]
  exact pair_new ok e2 (by rw [Nat.zero_add]; exact .int _) (Den.step hdv p)
theorem wk_zip {S : Sit} {a b : Addr} {vs us : List V} {ds es : List D} (h : SqL G.K S.I a vs) (hd : dna G S vs ds) (h' : SqL G.K S.I b us) (hd' : dna G S us es) : Wk G S (Itz G.K a b) (zipD ds es) := by
  intro S' p ok i
  have hs : SqL G.K S'.H a vs := ok.sub.seq (p.I.seq h)
  have hs' : SqL G.K S'.H b us := ok.sub.seq (p.I.seq h')
  refine ⟨fun d hi => ?_, fun hi => ⟨vs, us, hs, hs', by rw [DenA.length hd, DenA.length hd']; exact (zipD_get ds es i).2 hi⟩⟩
  obtain ⟨x, y, hx, hy, rfl⟩ := (zipD_get ds es i).1 d hi
  obtain ⟨v, hv, hdv⟩ := DenA.get hd hx
  obtain ⟨u, hu, hdu⟩ := DenA.get hd' hy
  refine ⟨⟨vs, us, v, u, hs, hs', hv, hu⟩, fun q H' ⟨T, z, z', e1, e2, e3, e4, e5⟩ => ?_⟩
  have e6 := e4 vs hs
  have e7 := e5 us hs'
  rw [hv] at e6
  rw [hu] at e7
  cases e6
  cases e7
  subst e1
  rw [e3]
  exact pair_new ok e2 (Den.step hdv p) (Den.step hdu p)
theorem tup_form {tg : Expr} (h : tupB tg = true) : ∃ elts kk tpos, tg = .Tuple elts kk tpos := by
  cases tg with
  | Tuple elts kk tpos => exact ⟨_, _, _, rfl⟩
  | _ => exact absurd h Bool.false_ne_true
theorem enum_sound {X : Cx} {mc : MC} {W : WX} (g : Gd G X mc k W) (ok : Gok G k) {a : E} {y tg : Expr} {zp pos : Pos} (h1 : tupB tg = true) (h2 : freeB mc "enumerate" = true) (h3 : mE mc a y = true) (ih : PE X y (tE G W a)) : PI X tg (.Call (.Name "enumerate" zp) [y] [] pos) (tIt G W (.enum a)) := by
  obtain ⟨elts, kk, tpos, rfl⟩ := tup_form h1
  obtain ⟨g1, f1, n1⟩ := free_of g ok h2
  refine PI.imp (pi_enum g1 f1 (pa_cons ih pa_nil (star_of h3 _ _)) (star_of h3 _ _)) fun σ H R ⟨S, ρ, hH, okS, m, A⟩ => ?_
  subst hH
  rw [evIt] at A
  refine tG.bind okS m (R := fun v H1 => tNil σ H1 fun vs H2 => ∃ a xs, v :: vs = [.ref a] ∧ SqL X.K H2 a xs ∧ R (Ite X.K a) H2) A fun d v S1 p1 ok1 m1 hv A1 => ?_
  cases q : itemsL d with
  | none => rw [q] at A1; exact A1.elim
  | some xs =>
    rw [q] at A1
    obtain ⟨b, vs, rfl, hq, hd⟩ := itemsL_seq ok1 hv q
    rw [g.K]
    exact ⟨b, vs, rfl, ok1.sub.seq hq, A1 _ S1 (.refl S1) ok1 rfl (wk_enum hq hd)⟩
theorem zip_sound {X : Cx} {mc : MC} {W : WX} (g : Gd G X mc k W) (ok : Gok G k) {a b : E} {y y' tg : Expr} {zp pos : Pos} (h1 : tupB tg = true) (h2 : freeB mc "zip" = true) (h3 : mE mc a y = true) (h4 : mE mc b y' = true) (ih : PE X y (tE G W a)) (ih' : PE X y' (tE G W b)) : PI X tg (.Call (.Name "zip" zp) [y, y'] [] pos) (tIt G W (.zip a b)) := by
  obtain ⟨elts, kk, tpos, rfl⟩ := tup_form h1
  obtain ⟨g1, f1, n1⟩ := free_of g ok h2
  refine PI.imp (pi_zip g1 f1 (pa_cons ih (pa_cons ih' pa_nil (star_of h4 _ _)) (star_of h3 _ _)) (star_of h3 _ _) (by rw [star_of h4]; rfl)) fun σ H R ⟨S, ρ, hH, okS, m, A⟩ => ?_
  subst hH
  rw [evIt] at A
  refine tG.bind okS m (R := fun v H1 => (tCons (tE G W b) tNil) σ H1 fun vs H2 => ∃ a b xs ys, v :: vs = [.ref a, .ref b] ∧ SqL X.K H2 a xs ∧ SqL X.K H2 b ys ∧ R (Itz X.K a b) H2) A fun d v S1 p1 ok1 m1 hv A1 => ?_
  refine tG.bind ok1 m1 (R := fun u H1 => tNil σ H1 fun us H2 => ∃ a b xs ys, v :: u :: us = [.ref a, .ref b] ∧ SqL X.K H2 a xs ∧ SqL X.K H2 b ys ∧ R (Itz X.K a b) H2) A1 fun d' u S2 p2 ok2 m2 hu A2 => ?_
  unfold zipDD at A2
  cases q : itemsL d with
  | none => rw [q] at A2; exact A2.elim
  | some xs =>
    rw [q] at A2
    cases q' : itemsL d' with
    | none => rw [q'] at A2; exact A2.elim
    | some ys =>
      rw [q'] at A2
      obtain ⟨b1, vs, rfl, hq, hd⟩ := itemsL_seq ok1 hv q
      obtain ⟨b2, us, rfl, hq', hd'⟩ := itemsL_seq ok2 hu q'
      rw [g.K]
      exact ⟨b1, b2, vs, us, rfl, ok2.sub.seq (p2.I.seq hq), ok2.sub.seq hq', A2 _ S2 (.refl S2) ok2 rfl (wk_zip (p2.I.seq hq) (DenA.step hd p2) hq' hd')⟩
set_option maxHeartbeats 4000000 in
mutual
theorem sE (ok : Gok G k) : ∀ (ir : E) (X : Cx) (mc : MC) (W : WX) (e : Expr), Gd G X mc k W → mE mc ir e = true → PE X e (tE G W ir) ∧ PT X e (tTest (tE G W ir))
  | .var i, X, mc, W, e, g, h => by
    cases e with
    | Name x pos =>
      have h : (decide (mc.N[i]? = some x) && visB mc.sc x && nmOk x) = true := h
      simp only [Bool.and_eq_true, decide_eq_true_eq] at h
      obtain ⟨⟨h1, h2⟩, h3⟩ := h
      refine plain_test (PE.imp (pe_var (i := i) (by rw [g.N]; exact h1) (g.vis h2) (nm_debug h3) (nm_cd h3)) fun σ H Q ⟨S, ρ, hH, okS, m, A⟩ => ?_) (by intro _; rfl)
      subst hH
      have A : Ans G W (dn G) S σ (.of (lk ρ i) S.w) Q := A
      unfold lk at A
      cases q : ρ[i]? with
      | none => rw [q] at A; exact A.elim
      | some o =>
        rw [q] at A
        cases o with
        | none => exact A.elim
        | some d =>
          obtain ⟨v, h1, h2⟩ := m.2 i d q
          exact ⟨v, h1, Ans.val (d := d) A okS h2⟩
    | _ => exact absurd h Bool.false_ne_true
  | .gl y d, X, mc, W, e, g, h => by
    cases e with
    | Name x pos =>
      have h : (decide (x = y) && glB mc.sc x && nmOk x && match (generalizing := false) mc.tab.lookup x with
        | some (.cst d') => beqD d d'
        | _ => false) = true := h
      simp only [Bool.and_eq_true, decide_eq_true_eq] at h
      obtain ⟨⟨⟨_, h1⟩, h3⟩, h4⟩ := h
      rw [g.tab] at h4
      cases q : G.tab.lookup x with
      | none => rw [q] at h4; exact absurd h4 Bool.false_ne_true
      | some t =>
        rw [q] at h4
        cases t with
        | cst d' =>
          have e := beqD_eq h4
          subst e
          obtain ⟨u, v, e1, e2, e3⟩ := ok.csts x d q
          refine plain_test (PE.imp (pe_glob (v := v) (g.gl h1) (by rw [g.mg]; exact e1) e2 (nm_debug h3)) fun σ H Q ⟨S, ρ, hH, okS, m, A⟩ => ?_) (by intro _; rfl)
          subst hH
          exact Ans.val (d := d) A okS (e3 _ _)
        | _ => exact absurd h4 Bool.false_ne_true
    | _ => exact absurd h Bool.false_ne_true
  | .con d, X, mc, W, e, g, h => by
    cases e with
    | Constant c j pos => exact plain_test (con_sound h) (by intro _; rfl)
    | _ => exact absurd h Bool.false_ne_true
  | .tup es, X, mc, W, e, g, h => by
    cases e with
    | Tuple l j pos =>
      have h : (mEs mc es l && decide (l.length ≤ 1000)) = true := h
      obtain ⟨h1, h2⟩ := Bool.and_eq_true_iff.mp h
      have h2 := of_decide_eq_true h2
      refine plain_test (PE.imp (pe_tup (sEs ok es X mc W l g h1)) fun σ H Q ⟨S, ρ, hH, okS, m, A⟩ => ?_) (by intro _; rfl)
      subst hH
      have A : Ans G W (dn G) S σ ((evEs G.F es ρ S.w).bind fun ds w => .ok (.tup ds) w) Q := by
        have A := A
        unfold evE at A
        exact A
      refine ⟨S, ρ, rfl, okS, m, ?_⟩
      revert A
      cases q : evEs G.F es ρ S.w with
      | ok ds w =>
        intro A vs S1 p ok1 hw hv
        subst hw
        have A1 : Ans G W (dn G) S1 σ (.ok (.tup ds) S1.w) Q := Ans.step A p
        have hl : vs.length = l.length := (DenA.length hv).trans (es_len h1 q)
        refine ⟨by rw [hl, sizeLine_eq]; omega, fun a ha => AnsV.newT (K := G.K) A1 ok1 hv a ha⟩
      | exc c w => exact id
      | stk => exact id
    | _ => exact absurd h Bool.false_ne_true
  | .lst es, X, mc, W, e, g, h => by
    cases e with
    | List l pos =>
      have h : (mEs mc es l && decide (l.length ≤ 1000)) = true := h
      obtain ⟨h1, h2⟩ := Bool.and_eq_true_iff.mp h
      have h2 := of_decide_eq_true h2
      refine plain_test (PE.imp (pe_lst (sEs ok es X mc W l g h1)) fun σ H Q ⟨S, ρ, hH, okS, m, A⟩ => ?_) (by intro _; rfl)
      subst hH
      have A : Ans G W (dn G) S σ ((evEs G.F es ρ S.w).bind fun ds w => .ok (.lst ds) w) Q := by
        have A := A
        unfold evE at A
        exact A
      refine ⟨S, ρ, rfl, okS, m, ?_⟩
      revert A
      cases q : evEs G.F es ρ S.w with
      | ok ds w =>
        intro A vs S1 p ok1 hw hv
        subst hw
        have A1 : Ans G W (dn G) S1 σ (.ok (.lst ds) S1.w) Q := Ans.step A p
        have hl : vs.length = l.length := (DenA.length hv).trans (es_len h1 q)
        refine ⟨by rw [hl, sizeLine_eq]; omega, fun a ha => AnsV.newL (K := G.K) A1 ok1 hv a ha⟩
      | exc c w => exact id
      | stk => exact id
    | _ => exact absurd h Bool.false_ne_true
  | .cel es, X, mc, W, e, g, h => by
    cases e with
    | List l pos =>
      have h : (mEs mc es l && decide (l.length ≤ 1000)) = true := h
      obtain ⟨h1, h2⟩ := Bool.and_eq_true_iff.mp h
      have h2 := of_decide_eq_true h2
      refine plain_test (PE.imp (pe_lst (sEs ok es X mc W l g h1)) fun σ H Q ⟨S, ρ, hH, okS, m, A⟩ => ?_) (by intro _; rfl)
      subst hH
      have A : Ans G W (dn G) S σ ((evEs G.F es ρ S.w).bind fun ds w => .ok (.loc w.length) (w ++ [.lst ds])) Q := by
        have A := A
        unfold evE at A
        exact A
      refine ⟨S, ρ, rfl, okS, m, ?_⟩
      revert A
      cases q : evEs G.F es ρ S.w with
      | ok ds w =>
        intro A vs S1 p ok1 hw hv
        subst hw
        have A1 : Ans G W (dn G) S1 σ (.ok (.loc S1.w.length) (S1.w ++ [.lst ds])) Q := Ans.step A p
        have hl : vs.length = l.length := (DenA.length hv).trans (es_len h1 q)
        refine ⟨by rw [hl, sizeLine_eq]; omega, fun a ha => ?_⟩
        refine A1 (.ref a) (S1.cell a (.lst vs) (.lst ds)) (step_cell ok1 ha) (ok_cell ok1 ha hv) rfl (.loc ?_)
        show (S1.L ++ [a])[S1.w.length]? = some a
        rw [← ok1.len, List.getElem?_append_right (Nat.le_refl _)]; simp
      | exc c w => exact id
      | stk => exact id
    | _ => exact absurd h Bool.false_ne_true
  | .bin o a b, X, mc, W, e, g, h => by
    cases e with
    | BinOp l op r pos =>
      have h : (decide (op = o.py) && mE mc a l && mE mc b r) = true := h
      simp only [Bool.and_eq_true, decide_eq_true_eq] at h
      obtain ⟨⟨rfl, h2⟩, h3⟩ := h
      exact plain_test (PE.imp (pe_op (op_bin o) (sE ok a X mc W l g h2).1 (sE ok b X mc W r g h3).1) (bin_sound g _ fun ρ w => by rw [evE])) (by intro _; rfl)
    | _ => exact absurd h Bool.false_ne_true
  | .neg a, X, mc, W, e, g, h => by
    cases e with
    | UnaryOp op x pos =>
      have h : (decide (op = .USub) && mE mc a x) = true := h
      simp only [Bool.and_eq_true, decide_eq_true_eq] at h
      obtain ⟨rfl, h2⟩ := h
      refine plain_test (PE.imp (pe_un un_neg (sE ok a X mc W x g h2).1) fun σ H Q ⟨S, ρ, hH, okS, m, A⟩ => ?_) (by intro _; rfl)
      subst hH
      rw [evE] at A
      refine tG.bind okS m A fun d v S1 p1 ok1 m1 hv A1 => ?_
      obtain ⟨i, rfl, A2⟩ := Ans.intI A1 rfl
      exact ⟨i, den_int hv, Ans.val A2 ok1 (.int _)⟩
    | _ => exact absurd h Bool.false_ne_true
  | .nt a, X, mc, W, e, g, h => by
    cases e with
    | UnaryOp op x pos =>
      have h : (decide (op = .Not) && mE mc a x) = true := h
      simp only [Bool.and_eq_true, decide_eq_true_eq] at h
      obtain ⟨rfl, h2⟩ := h
      have ih := sE ok a X mc W x g h2
      have key : ∀ {σ H Q}, tE G W (.nt a) σ H Q → tE G W a σ H fun v H1 => ∃ b, v = .bl b ∧ Q (.bl (!b)) H1 := fun {σ H Q} ⟨S, ρ, hH, okS, m, A⟩ => by
        subst hH
        rw [evE] at A
        refine tG.bind okS m A fun d v S1 p1 ok1 m1 hv A1 => ?_
        cases q : truth d with
        | none => rw [q] at A1; exact A1.elim
        | some b =>
          rw [q] at A1
          have e := truth_bl q
          subst e
          exact ⟨b, den_bl hv, Ans.val (d := .bl (!b)) A1 ok1 (.bl _)⟩
      refine ⟨PE.imp (pe_not ih.1) fun σ H Q q => key q, PT.imp (pt_not ih.2) fun σ H Q q => ?_⟩
      have q := key q
      obtain ⟨S, ρ, e1, e2, e3, e4⟩ := q
      refine ⟨S, ρ, e1, e2, e3, ?_⟩
      revert e4
      cases evE G.F a ρ S.w with
      | ok d w =>
        intro e4 v S1 p ok1 hw hv
        obtain ⟨b, rfl, z, ez, hz⟩ := e4 v S1 p ok1 hw hv
        cases ez
        exact ⟨b, rfl, hz⟩
      | exc c w => exact id
      | stk => exact id
    | _ => exact absurd h Bool.false_ne_true
  | .and_ a es, X, mc, W, e, g, h => by
    cases e with
    | BoolOp op l pos =>
      cases l with
      | nil => exact absurd h Bool.false_ne_true
      | cons x l =>
        have h : (decide (op = .And) && mE mc a x && mEs mc es l) = true := h
        simp only [Bool.and_eq_true, decide_eq_true_eq] at h
        obtain ⟨⟨rfl, h2⟩, h3⟩ := h
        have ih := sE ok a X mc W x g h2
        obtain ⟨r1, r2⟩ := sCh ok true es X mc W a x l pos g ih.1 ih.2 h3
        exact ⟨r1, r2.pt⟩
    | _ => exact absurd h Bool.false_ne_true
  | .or_ a es, X, mc, W, e, g, h => by
    cases e with
    | BoolOp op l pos =>
      cases l with
      | nil => exact absurd h Bool.false_ne_true
      | cons x l =>
        have h : (decide (op = .Or) && mE mc a x && mEs mc es l) = true := h
        simp only [Bool.and_eq_true, decide_eq_true_eq] at h
        obtain ⟨⟨rfl, h2⟩, h3⟩ := h
        have ih := sE ok a X mc W x g h2
        obtain ⟨r1, r2⟩ := sCh ok false es X mc W a x l pos g ih.1 ih.2 h3
        exact ⟨r1, r2.pt⟩
    | _ => exact absurd h Bool.false_ne_true
  | .ite c a b, X, mc, W, e, g, h => by
    cases e with
    | IfExp t x y pos =>
      have h : (mE mc c t && mE mc a x && mE mc b y) = true := h
      simp only [Bool.and_eq_true] at h
      obtain ⟨⟨h1, h2⟩, h3⟩ := h
      have ic := sE ok c X mc W t g h1
      have ia := sE ok a X mc W x g h2
      have ib := sE ok b X mc W y g h3
      have key : ∀ {σ H Q}, tE G W (.ite c a b) σ H Q → tE G W c σ H fun v H1 => ∃ k, v = .bl k ∧ if k = true then tE G W a σ H1 Q else tE G W b σ H1 Q := fun {σ H Q} ⟨S, ρ, hH, okS, m, A⟩ => by
        subst hH
        rw [evE] at A
        refine tG.bind okS m A fun d v S1 p1 ok1 m1 hv A1 => ?_
        cases q : truth d with
        | none => rw [q] at A1; exact A1.elim
        | some kk =>
          rw [q] at A1
          have e := truth_bl q
          subst e
          refine ⟨kk, den_bl hv, ?_⟩
          cases kk with
          | true => rw [if_pos rfl]; exact ⟨S1, ρ, rfl, ok1, m1, A1⟩
          | false => rw [if_neg Bool.false_ne_true]; exact ⟨S1, ρ, rfl, ok1, m1, A1⟩
      refine ⟨PE.imp (pe_ifExp ic.2 ia.1 ib.1) fun σ H Q q => key q, ⟨fun pins s σ H Q I q => ?_⟩⟩
      show wpAny (model X.prog X.w) X.A (do
        if ← isTrue t X.env (eval t X.env) then isTrue x X.env (eval x X.env) else isTrue y X.env (eval y X.env)) (TP X pins σ Q) X.xe s
      refine wpAny_bind (thn (ic.2.run pins s σ H _ I (key q)) fun d s1 ⟨H1, I1, q1⟩ => ?_)
      cases d with
      | true => exact ia.2.run pins s1 σ H1 Q I1 q1
      | false => exact ib.2.run pins s1 σ H1 Q I1 q1
    | _ => exact absurd h Bool.false_ne_true
  | .cmp o a b, X, mc, W, e, g, h => by
    cases e with
    | Compare l ops rs pos =>
      match ops, rs, h with
      | [op], [r], h =>
        have h : (decide (op = o.py) && !behindInMarks op r && mE mc a l && mE mc b r) = true := h
        simp only [Bool.and_eq_true, decide_eq_true_eq, Bool.not_eq_true'] at h
        obtain ⟨⟨⟨rfl, hm⟩, h2⟩, h3⟩ := h
        have ho := op_cop (X := X) (units65 g.room) o
        have ia := sE ok a X mc W l g h2
        have ib := sE ok b X mc W r g h3
        have key := bin_sound (W := W) (a := a) (b := b) g (evE G.F (.cmp o a b)) fun ρ w => by rw [evE]
        exact ⟨PE.imp (pe_cmpR ho ia.1 ib.1 hm) key, PT.imp (pt_cmpR ho ia.1 ib.1 hm) fun σ H Q q => key _ _ _ q⟩
      | [], _, h => exact absurd h Bool.false_ne_true
      | [_], [], h => exact absurd h Bool.false_ne_true
      | [_], _ :: _ :: _, h => exact absurd h Bool.false_ne_true
      | _ :: _ :: _, _, h => exact absurd h Bool.false_ne_true
    | _ => exact absurd h Bool.false_ne_true
  | .chain o p a b c, X, mc, W, e, g, h => by
    cases e with
    | Compare l ops rs pos =>
      match ops, rs, h with
      | [op, op'], [r, r'], h =>
        have h : (decide (op = o.py) && decide (op' = p.py) && !behindInMarks op' r' && mE mc a l && mE mc b r && mE mc c r') = true := h
        simp only [Bool.and_eq_true, decide_eq_true_eq, Bool.not_eq_true'] at h
        obtain ⟨⟨⟨⟨⟨rfl, rfl⟩, hm⟩, h2⟩, h3⟩, h4⟩ := h
        have ho := op_cop (X := X) (units65 g.room) o
        have ho' := op_cop (X := X) (units65 g.room) p
        have ia := sE ok a X mc W l g h2
        have ib := sE ok b X mc W r g h3
        have ic := sE ok c X mc W r' g h4
        have key : ∀ σ H Q, tE G W (.chain o p a b c) σ H Q → tChain (Rc X.K o) (Rc X.K p) (tE G W a) (tE G W b) (tE G W c) σ H Q := fun σ H Q ⟨S, ρ, hH, okS, m, A⟩ => by
          subst hH
          rw [evE] at A
          refine tG.bind okS m A fun x v S1 p1 ok1 m1 hv A1 => tG.bind ok1 m1 A1 fun y u S2 p2 ok2 m2 hu A2 => ?_
          refine ⟨S2, x, y, rfl, by rw [g.K]; exact ok2, by rw [g.K]; exact Den.step hv p2, by rw [g.K]; exact hu, ?_⟩
          rw [g.K]
          show AnsV G.K S2 ((copD o x y S2.w).map .bl) _
          cases q : copD o x y S2.w with
          | none => rw [q] at A2; exact A2.elim
          | some bb =>
            rw [q] at A2
            show ∀ v S', Step S2 S' → OkS G.K S' → S'.w = S2.w → Den G.K S'.I S'.L v (.bl bb) → _
            intro v' S3 p3 ok3 hw3 hv3
            cases den_bl hv3
            refine ⟨bb, rfl, ?_⟩
            cases bb with
            | false =>
              rw [if_neg Bool.false_ne_true]
              exact A2 (.bl false) S3 p3 ok3 hw3 (.bl false)
            | true =>
              rw [if_pos rfl]
              dsimp only at A2
              have A3 := Ans.step A2 p3
              rw [← hw3] at A3
              refine tG.bind ok3 (m2.step p3) A3 fun z w' S4 p4 ok4 m4 hz A4 => ?_
              refine ⟨S4, y, z, rfl, ok4, Den.step (Den.step hu p3) p4, hz, ?_⟩
              exact Ans.of A4
        exact ⟨PE.imp (pe_chain ho ho' ia.1 ib.1 ic.1 (lastM hm)) key, PT.imp (pt_chain ho ho' ia.1 ib.1 ic.1 (lastM hm)) fun σ H Q q => key _ _ _ q⟩
      | [], _, h => exact absurd h Bool.false_ne_true
      | [_], [], h => exact absurd h Bool.false_ne_true
      | [_], _ :: _, h => exact absurd h Bool.false_ne_true
      | [_, _], [], h => exact absurd h Bool.false_ne_true
      | [_, _], [_], h => exact absurd h Bool.false_ne_true
      | [_, _], _ :: _ :: _ :: _, h => exact absurd h Bool.false_ne_true
      | _ :: _ :: _ :: _, _, h => exact absurd h Bool.false_ne_true
    | _ => exact absurd h Bool.false_ne_true
  | .ix a b, X, mc, W, e, g, h => by
    cases e with
    | Subscript x i pos =>
      have h : (mE mc a x && mE mc b i) = true := h
      obtain ⟨h1, h2⟩ := Bool.and_eq_true_iff.mp h
      exact plain_test (PE.imp (pe_ix (ix_any (units1 g.room)) (sE ok a X mc W x g h1).1 (sE ok b X mc W i g h2).1 (plain_ix h2)) (bin_sound g _ fun ρ w => by rw [evE])) (by intro _; rfl)
    | _ => exact absurd h Bool.false_ne_true
  | .slc p q a lo hi, X, mc, W, e, g, h => by
    cases e with
    | Subscript x i pos =>
      cases i with
      | Slice l u st spos =>
        cases st with
        | some _ => exact absurd h Bool.false_ne_true
        | none =>
          have h : (mE mc a x && (match (generalizing := false) l with
            | none => !p && isCon .non lo
            | some y => p && mE mc lo y) && (match (generalizing := false) u with
            | none => !q && isCon .non hi
            | some y => q && mE mc hi y)) = true := h
          simp only [Bool.and_eq_true] at h
          obtain ⟨⟨h1, h2⟩, h3⟩ := h
          have pl : PO X l (tBd G W p lo) := by
            cases l with
            | none =>
              simp only [Bool.and_eq_true, Bool.not_eq_true'] at h2
              obtain ⟨rfl, h2⟩ := h2
              cases isCon_eq h2
              exact po_no
            | some y =>
              simp only [Bool.and_eq_true] at h2
              obtain ⟨rfl, h2⟩ := h2
              exact po_at (sE ok lo X mc W y g h2).1
          have pu : PO X u (tBd G W q hi) := by
            cases u with
            | none =>
              simp only [Bool.and_eq_true, Bool.not_eq_true'] at h3
              obtain ⟨rfl, h3⟩ := h3
              cases isCon_eq h3
              exact po_no
            | some y =>
              simp only [Bool.and_eq_true] at h3
              obtain ⟨rfl, h3⟩ := h3
              exact po_at (sE ok hi X mc W y g h3).1
          exact plain_test (PE.imp (pe_slice sl_any (sE ok a X mc W x g h1).1 pl pu) (slc_key g)) (by intro _; rfl)
      | _ => exact absurd h Bool.false_ne_true
    | _ => exact absurd h Bool.false_ne_true
  | .rev a, X, mc, W, e, g, h => by
    cases e with
    | Subscript x i pos =>
      have hx : ∃ k p1 p2 p3, i = .Slice none none (some (.UnaryOp .USub (.Constant (.int 1) k p1) p2)) p3 ∧ mE mc a x = true := by
        have h : (match (generalizing := false) i with
          | .Slice none none (some (.UnaryOp .USub (.Constant (.int 1) _ _) _)) _ => mE mc a x
          | _ => false) = true := h
        split at h
        · exact ⟨_, _, _, _, rfl, h⟩
        · exact absurd h Bool.false_ne_true
      obtain ⟨kk, p1, p2, p3, rfl, h1⟩ := hx
      refine plain_test (PE.imp (pe_revL (sE ok a X mc W x g h1).1) fun σ H Q ⟨S, ρ, hH, okS, m, A⟩ => ?_) (by intro _; rfl)
      subst hH
      rw [evE] at A
      refine tG.bind okS m A fun d v S1 q1 ok1 m1 hv A1 => ?_
      have A1 : AnsV G.K S1 (revD d S1.w) Q := Ans.of A1
      unfold revD at A1
      cases q : dr S1.w d with
      | none => rw [q] at A1; exact A1.elim
      | some d' =>
        rw [q] at A1
        cases d' with
        | lst xs =>
          obtain ⟨b, vs, rfl, h1, d1⟩ := lst_of ok1 hv q
          exact ⟨b, vs, rfl, .of h1, fun p hp => AnsV.newL A1 ok1 d1.reverse p hp⟩
        | _ => exact A1.elim
    | _ => exact absurd h Bool.false_ne_true
  | .call f es, X, mc, W, e, g, h => by
    cases e with
    | Call fn l kw pos =>
      cases fn with
      | Name x p =>
        cases kw with
        | nil =>
          have h : (fnB mc x f && mEs mc es l) = true := h
          obtain ⟨h1, h2⟩ := Bool.and_eq_true_iff.mp h
          exact plain_test (call_sound g ok h1 h2 (sEs ok es X mc W l g h2)) (by intro _; rfl)
        | cons _ _ => exact absurd h Bool.false_ne_true
      | _ => exact absurd h Bool.false_ne_true
    | _ => exact absurd h Bool.false_ne_true
  | .prim p es, X, mc, W, e, g, h => by
    cases e with
    | Call fn l kw pos =>
      cases fn with
      | Name x xp =>
        cases kw with
        | nil =>
          have h : (freeB mc x && primB p x && mEs mc es l && !l.isEmpty) = true := h
          simp only [Bool.and_eq_true] at h
          obtain ⟨⟨⟨h1, h3⟩, h4⟩, h5⟩ := h
          refine plain_test ?_ (by intro _; rfl)
          unfold primB at h3
          cases q : primN p with
          | none => rw [q] at h3; exact absurd h3 Bool.false_ne_true
          | some qq =>
            rw [q] at h3
            refine prim_sound g ok q (of_decide_eq_true h3) h1 h4 (fun e => ?_) (sEs ok es X mc W l g h4)
            rw [e] at h5
            exact absurd h5 Bool.false_ne_true
        | cons _ _ => exact absurd h Bool.false_ne_true
      | _ => exact absurd h Bool.false_ne_true
    | _ => exact absurd h Bool.false_ne_true
  | .isi t a, X, mc, W, e, g, h => by
    cases e with
    | Call fn l kw pos =>
      cases fn with
      | Name x xp =>
        cases kw with
        | nil =>
          cases l with
          | nil => exact absurd h Bool.false_ne_true
          | cons y l =>
            cases l with
            | nil => exact absurd h Bool.false_ne_true
            | cons y' l =>
              cases l with
              | cons _ _ => exact absurd h Bool.false_ne_true
              | nil =>
                cases y' with
                | Name z zp =>
                  have h : (decide (x = "isinstance") && freeB mc x && mE mc a y && decide (z = tyN t) && freeB mc z) = true := h
                  simp only [Bool.and_eq_true, decide_eq_true_eq] at h
                  obtain ⟨⟨⟨⟨h1, h2⟩, h3⟩, h4⟩, h5⟩ := h
                  refine plain_test (isi_sound g ok h1 h2 h3 (sE ok a X mc W y g h3).1 h4 h5) (by intro _; rfl)
                | _ => exact absurd h Bool.false_ne_true
        | cons _ _ => exact absurd h Bool.false_ne_true
      | _ => exact absurd h Bool.false_ne_true
    | _ => exact absurd h Bool.false_ne_true
  | .lr1 a, X, mc, W, e, g, h => by
    cases e with
    | Call fn l kw pos =>
      cases fn with
      | Name x xp =>
        cases kw with
        | nil =>
          cases l with
          | nil => exact absurd h Bool.false_ne_true
          | cons y' l =>
            cases l with
            | cons _ _ => exact absurd h Bool.false_ne_true
            | nil =>
              cases y' with
              | Call fn' l' kw' pos' =>
                cases fn' with
                | Name z zp =>
                  cases kw' with
                  | nil =>
                    cases l' with
                    | nil => exact absurd h Bool.false_ne_true
                    | cons y l' =>
                      cases l' with
                      | cons _ _ => exact absurd h Bool.false_ne_true
                      | nil =>
                        have h : (decide (x = "list") && freeB mc x && decide (z = "range") && freeB mc z && mE mc a y) = true := h
                        simp only [Bool.and_eq_true, decide_eq_true_eq] at h
                        obtain ⟨⟨⟨⟨h1, h2⟩, h3⟩, h4⟩, h5⟩ := h
                        exact plain_test (listR1_sound g ok h1 h2 h3 h4 h5 (sE ok a X mc W y g h5).1) (by intro _; rfl)
                  | cons _ _ => exact absurd h Bool.false_ne_true
                | _ => exact absurd h Bool.false_ne_true
              | _ => exact absurd h Bool.false_ne_true
        | cons _ _ => exact absurd h Bool.false_ne_true
      | _ => exact absurd h Bool.false_ne_true
    | _ => exact absurd h Bool.false_ne_true
  | .lr2 a b, X, mc, W, e, g, h => by
    cases e with
    | Call fn l kw pos =>
      cases fn with
      | Name x xp =>
        cases kw with
        | nil =>
          cases l with
          | nil => exact absurd h Bool.false_ne_true
          | cons y' l =>
            cases l with
            | cons _ _ => exact absurd h Bool.false_ne_true
            | nil =>
              cases y' with
              | Call fn' l' kw' pos' =>
                cases fn' with
                | Name z zp =>
                  cases kw' with
                  | nil =>
                    cases l' with
                    | nil => exact absurd h Bool.false_ne_true
                    | cons y l' =>
                      cases l' with
                      | nil => exact absurd h Bool.false_ne_true
                      | cons u l' =>
                        cases l' with
                        | cons _ _ => exact absurd h Bool.false_ne_true
                        | nil =>
                          have h : (decide (x = "list") && freeB mc x && decide (z = "range") && freeB mc z && mE mc a y && mE mc b u) = true := h
                          simp only [Bool.and_eq_true, decide_eq_true_eq] at h
                          obtain ⟨⟨⟨⟨⟨h1, h2⟩, h3⟩, h4⟩, h5⟩, h6⟩ := h
                          exact plain_test (listR2_sound g ok h1 h2 h3 h4 h5 h6 (sE ok a X mc W y g h5).1 (sE ok b X mc W u g h6).1) (by intro _; rfl)
                  | cons _ _ => exact absurd h Bool.false_ne_true
                | _ => exact absurd h Bool.false_ne_true
              | _ => exact absurd h Bool.false_ne_true
        | cons _ _ => exact absurd h Bool.false_ne_true
      | _ => exact absurd h Bool.false_ne_true
    | _ => exact absurd h Bool.false_ne_true
  | .meth m a es, X, mc, W, e, g, h => by
    cases e with
    | Call fn l kw pos =>
      cases fn with
      | Attribute x name apos =>
        cases kw with
        | nil =>
          have h : (mE mc a x && baseB x && mEs mc es l && lineB apos pos && l.length == 1 && (match (generalizing := false) m with
            | .append => decide (name = "append")
            | .index => decide (name = "index")
            | _ => false)) = true := h
          simp only [Bool.and_eq_true] at h
          obtain ⟨⟨⟨⟨⟨h1, h2⟩, h3⟩, h4⟩, h5⟩, h6⟩ := h
          refine plain_test ?_ (by intro _; rfl)
          match l, h3, h5 with
          | [y], h3, _ =>
            cases es with
            | nil => exact absurd h3 Bool.false_ne_true
            | cons b es =>
              have h3 : (mE mc b y && mEs mc es []) = true := h3
              obtain ⟨k1, k2⟩ := Bool.and_eq_true_iff.mp h3
              cases es with
              | cons _ _ => exact absurd k2 Bool.false_ne_true
              | nil => exact meth_sound g (sE ok a X mc W x g h1).1 (sE ok b X mc W y g k1).1 k1 h2 h4 h6
          | [], _, h5 => exact absurd h5 Bool.false_ne_true
          | _ :: _ :: _, _, h5 => exact absurd (beq_iff_eq.mp h5) (by simp)
        | cons _ _ => exact absurd h Bool.false_ne_true
      | _ => exact absurd h Bool.false_ne_true
    | _ => exact absurd h Bool.false_ne_true
  | .lc cell t it c elt, X, mc, W, e, g, h => by
    obtain ⟨elt', tg, iter, ifs, scope, pos, e', h1, h2, h3, h4, h5⟩ := lc_form h
    clear h
    subst e'
    have ht : ∀ (s : Shared) (H : Hp) (C : Addr) (cl : List (Str × Addr)) (fp : List Addr), PTs (X.blk s H scope (compEnvC scope cl C X.env) fp) ifs (tTest (tE G (fun _ _ _ _ => False) c)) := by
      intro s H C cl fp
      rcases h4 with ⟨rfl, h4⟩ | ⟨i, rfl, h4⟩
      · subst h4
        exact pts_con
      · exact pts_one (sE ok c _ _ _ i (g.blk scope s H C cl fp) h4).2
    exact plain_test (PE.imp (pe_lc g.calm (by rw [g.N]; exact g.nd) (sIt ok it X mc W tg iter g h1) (blk_of g h2)
      (fun s H C cl fp => sT (g.blk scope s H C cl fp) t tg h3) ht (fun s H C cl fp => (sE ok elt _ _ _ elt' (g.blk scope s H C cl fp) h5).1) (fold_it h1 _))
      (lc_sound (pos := pos) g (sIt ok it X mc W tg iter g h1) h2 (fun s H C cl fp => sT (g.blk scope s H C cl fp) t tg h3) ht (fun s H C cl fp => (sE ok elt _ _ _ elt' (g.blk scope s H C cl fp) h5).1) (fold_it h1 _))) (by intro _; rfl)
  | .dsp ks vs, X, mc, W, e, g, h => by
    cases e with
    | Dict es us pos => exact plain_test (dsp_sound g h) (by intro _; rfl)
    | _ => exact absurd h Bool.false_ne_true
theorem sEs (ok : Gok G k) : ∀ (irs : Es) (X : Cx) (mc : MC) (W : WX) (l : List Expr), Gd G X mc k W → mEs mc irs l = true → PA X l (tEs G W irs)
  | .nil, X, mc, W, l, g, h => by
    cases l with
    | nil =>
      refine PA.imp pa_nil fun σ H Q ⟨S, ρ, hH, okS, m, A⟩ => ?_
      subst hH
      exact A [] S (.refl S) okS rfl .nil
    | cons _ _ => exact absurd h Bool.false_ne_true
  | .cons ir irs, X, mc, W, l, g, h => by
    cases l with
    | nil => exact absurd h Bool.false_ne_true
    | cons e l =>
      have h : (mE mc ir e && mEs mc irs l) = true := h
      obtain ⟨h1, h2⟩ := Bool.and_eq_true_iff.mp h
      refine PA.imp (pa_cons (sE ok ir X mc W e g h1).1 (sEs ok irs X mc W l g h2) (star_of h1 _ _)) fun σ H Q ⟨S, ρ, hH, okS, m, A⟩ => ?_
      subst hH
      rw [evEs] at A
      refine tG.bind okS m A fun d v S1 p1 ok1 m1 hv A1 => tG.bind ok1 m1 A1 fun ds vs S2 p2 ok2 m2 hvs A2 => ?_
      exact A2 (v :: vs) S2 (.refl S2) ok2 rfl (.cons (Den.step hv p2) hvs)
theorem sCh (ok : Gok G k) (ia : Bool) : ∀ (irs : Es) (X : Cx) (mc : MC) (W : WX) (a : E) (x : Expr) (l : List Expr) (pos : Pos), Gd G X mc k W → PE X x (tE G W a) → PT X x (tTest (tE G W a)) → mEs mc irs l = true →
    PE X (.BoolOp (boolop ia) (x :: l) pos) (tE G W (irB ia a irs)) ∧ PW X (.BoolOp (boolop ia) (x :: l) pos) (tTest (tE G W (irB ia a irs)))
  | .nil, X, mc, W, a, x, l, pos, g, p, t, h => by
    cases l with
    | nil => exact chain_one p t
    | cons _ _ => exact absurd h Bool.false_ne_true
  | .cons ir irs, X, mc, W, a, x, l, pos, g, p, t, h => by
    cases l with
    | nil => exact absurd h Bool.false_ne_true
    | cons y l =>
      have h : (mE mc ir y && mEs mc irs l) = true := h
      obtain ⟨h1, h2⟩ := Bool.and_eq_true_iff.mp h
      have ih := sE ok ir X mc W y g h1
      exact chain_more p t (sCh ok ia irs X mc W ir y l pos g ih.1 ih.2 h2)
theorem sIt (ok : Gok G k) : ∀ (it : It) (X : Cx) (mc : MC) (W : WX) (tg e : Expr), Gd G X mc k W → mIt mc it (tupB tg) e = true → PI X tg e (tIt G W it)
  | .val a, X, mc, W, tg, e, g, h => PI.imp (pi_val (sE ok a X mc W e g h).1) (val_key g)
  | .rng es, X, mc, W, tg, e, g, h => by
    cases e with
    | Call fn l kw pos =>
      cases fn with
      | Name z zp =>
        cases kw with
        | nil =>
          have h : (decide (z = "range") && freeB mc z && mEs mc es l && (l.length == 1 || l.length == 2 || l.length == 3)) = true := h
          simp only [Bool.and_eq_true, decide_eq_true_eq] at h
          obtain ⟨⟨⟨rfl, h2⟩, h3⟩, h4⟩ := h
          exact rng_sound g ok h2 h3 (sEs ok es X mc W l g h3) h4
        | cons _ _ => exact absurd h Bool.false_ne_true
      | _ => exact absurd h Bool.false_ne_true
    | _ => exact absurd h Bool.false_ne_true
  | .enum a, X, mc, W, tg, e, g, h => by
    cases e with
    | Call fn l kw pos =>
      cases fn with
      | Name z zp =>
        cases kw with
        | nil =>
          match l, h with
          | [y], h =>
            have h : (tupB tg && decide (z = "enumerate") && freeB mc z && mE mc a y) = true := h
            simp only [Bool.and_eq_true, decide_eq_true_eq] at h
            obtain ⟨⟨⟨h1, rfl⟩, h2⟩, h3⟩ := h
            exact enum_sound g ok h1 h2 h3 (sE ok a X mc W y g h3).1
          | [], h => exact absurd h Bool.false_ne_true
          | _ :: _ :: _, h => exact absurd h Bool.false_ne_true
        | cons _ _ => exact absurd h Bool.false_ne_true
      | _ => exact absurd h Bool.false_ne_true
    | _ => exact absurd h Bool.false_ne_true
  | .zip a b, X, mc, W, tg, e, g, h => by
    cases e with
    | Call fn l kw pos =>
      cases fn with
      | Name z zp =>
        cases kw with
        | nil =>
          match l, h with
          | [y, y'], h =>
            have h : (tupB tg && decide (z = "zip") && freeB mc z && mE mc a y && mE mc b y') = true := h
            simp only [Bool.and_eq_true, decide_eq_true_eq] at h
            obtain ⟨⟨⟨⟨h1, rfl⟩, h2⟩, h3⟩, h4⟩ := h
            exact zip_sound g ok h1 h2 h3 h4 (sE ok a X mc W y g h3).1 (sE ok b X mc W y' g h4).1
          | [], h => exact absurd h Bool.false_ne_true
          | [_], h => exact absurd h Bool.false_ne_true
          | _ :: _ :: _ :: _, h => exact absurd h Bool.false_ne_true
        | cons _ _ => exact absurd h Bool.false_ne_true
      | _ => exact absurd h Bool.false_ne_true
    | _ => exact absurd h Bool.false_ne_true
end
end
end Ir
/-! # statements -/
namespace Ir
open PySem PySem.Spec PyProof.Rows L2

/-! ## the check -/
def lcB : E → Bool
  | .lc .. => true
  | _ => false
def tupE : E → Bool
  | .tup _ => true
  | _ => false
def swC (mc : MC) (y : Str) (py pos : Pos) (scope : Scope) : Bool :=
  (mc.sc.kind == .function) && (mc.sc.names.lookup y == some .local) && (py.line == pos.line) && !(scope.names.any fun (n, k) => n == y && (k == .local || k == .cell))
def locB (mc : MC) (x : Str) : Bool := mc.sc.names.lookup x == some .local
def starB : Expr → Bool
  | .Starred .. => true
  | _ => false
def kLoc (sc : Scope) (line : Nat) : Expr → Option Str
  | .Name id pos => if sc.names.lookup id == some .local && pos.line == line then some id else none
  | _ => none
/-- stores that are swapped: the names; not swapped: none -/
def swSt (sc : Scope) (ts vs : List Expr) : Option (Option (List Str)) :=
  if !(ts.length == 2 || ts.length == 3) || vs.length != ts.length || sc.kind != .function then some none
  else if vs.any starB then some none
  else
    let names := ts.filterMap (kLoc sc ((ts.head?.map (·.pos.line)).getD 0))
    if names.length != ts.length || names.eraseDups.length != names.length then some none
    else if vs.all (foldedForSure 8) then some none
    else if vs.all (constantsAlone 8) then none
    else some (some names)
theorem swSt_eq {env : PySem.Env} {sc : Scope} (hsc : env.scope = sc) (hk : sc.kind = .function ∨ sc.kind.isAnnotationScope = false) {ts vs : List Expr} {kt kv : Nat} {pt pv : Pos} {r : Option (List Str)} (h : swSt sc ts vs = some r) :
    swappedStores [.Tuple ts kt pt] (.Tuple vs kv pv) env = pure r := by
  subst hsc
  have hb : env.blockKind = env.scope.kind := by
    unfold Env.blockKind
    rcases hk with hk | hk
    · rw [hk]; rfl
    · rw [hk]; rfl
  unfold swSt at h
  show (if (!(ts.length == 2 || ts.length == 3) || vs.length != ts.length || env.blockKind != .function) = true then (pure none : Sem (Option (List Str))) else
    if vs.any starB = true then pure none else
    if ((ts.filterMap (kLoc env.scope ((ts.head?.map (·.pos.line)).getD 0))).length != ts.length || (ts.filterMap (kLoc env.scope ((ts.head?.map (·.pos.line)).getD 0))).eraseDups.length != (ts.filterMap (kLoc env.scope ((ts.head?.map (·.pos.line)).getD 0))).length) = true then pure none else
    if vs.all (foldedForSure 8) = true then pure none else do
    if vs.all (constantsAlone 8) = true then unsupported "assign.tuple-of-constant-expressions:order-of-the-stores"
    return some (ts.filterMap (kLoc env.scope ((ts.head?.map (·.pos.line)).getD 0)))) = pure r
  rw [hb]
  dsimp only at h
  split at h
  · rename_i c; rw [if_pos c]; cases h; rfl
  · rename_i c
    rw [if_neg c]
    split at h
    · rename_i c; rw [if_pos c]; cases h; rfl
    · rename_i c
      rw [if_neg c]
      split at h
      · rename_i c; rw [if_pos c]; cases h; rfl
      · rename_i c
        rw [if_neg c]
        split at h
        · rename_i c; rw [if_pos c]; cases h; rfl
        · rename_i c
          rw [if_neg c]
          split at h
          · cases h
          · rename_i c
            rw [if_neg c]
            cases h
            rfl

/-- the stores of target = value go plainly -/
def plainA (mc : MC) (e : E) (tg v : Expr) : Bool := match tg with
  | .Name y py => match v with
    | .ListComp _ _ scope lpos => !swC mc y py lpos scope
    | _ => !lcB e
  | .Tuple ts _ _ => match v with
    | .Tuple vs _ _ => decide (swSt mc.sc ts vs = some none)
    | _ => !lcB e
  | _ => false
/-- name = comprehension, on one line -/
def lcA (mc : MC) (tg v : Expr) : Bool := match tg, v with
  | .Name y py, .ListComp _ _ scope lpos => swC mc y py lpos scope
  | _, _ => false
def parA (mc : MC) (t : Tg) (e : E) (tg v : Expr) : Bool := match t, e with
  | .tup (.cons (.nm i) (.cons (.nm j) .nil)), .tup (.cons _ (.cons _ .nil)) => match tg, v with
    | .Tuple [.Name x _, .Name y _] _ _, .Tuple [a, b] _ _ => match tg with
      | .Tuple ts _ _ => decide (swSt mc.sc ts [a, b] = some (some [x, y])) && decide (i ≠ j) && locB mc x && locB mc y
      | _ => false
    | _, _ => false
  | .tup (.cons (.nm i) (.cons (.nm j) (.cons (.nm l) .nil))), .tup (.cons _ (.cons _ (.cons _ .nil))) => match tg, v with
    | .Tuple [.Name x _, .Name y _, .Name z _] _ _, .Tuple [a, b, c] _ _ => match tg with
      | .Tuple ts _ _ => decide (swSt mc.sc ts [a, b, c] = some (some [x, y, z])) && decide (i ≠ j) && decide (i ≠ l) && decide (j ≠ l) && locB mc x && locB mc y && locB mc z
      | _ => false
    | _, _ => false
  | _, _ => false
def clsB (mc : MC) (x : Str) (c : Nat) : Bool := glB mc.sc x && nmOk x && match mc.tab.lookup x with
  | some (.cls d) => c == d
  | _ => false
def augB : BOp → Operator → Bool
  | .add, .Add => true
  | .sub, .Sub => true
  | _, _ => false
mutual
def mS (mc : MC) : S → Stmt → Bool
  | .asg t e, st => match st with
    | .Assign tgs v _ => match tgs with
      | [tg] => mE mc e v && mT mc t tg && (plainA mc e tg v || lcA mc tg v || parA mc t e tg v)
      | _ => false
    | _ => false
  | .aug i o e, st => match st with
    | .AugAssign tg op v _ => match tg with
      | .Name x _ => decide (mc.N[i]? = some x) && stB mc x && augB o op && mE mc e v
      | _ => false
    | _ => false
  | .setix a i e, st => match st with
    | .Assign tgs v _ => match tgs with
      | [tg] => match tg with
        | .Subscript x y _ => mE mc a x && mE mc i y && mE mc e v && !lcB e
        | _ => false
      | _ => false
    | _ => false
  | .ex e, st => match st with
    | .Expr v _ => mE mc e v && !lcB e
    | _ => false
  | .ret e, st => match st with
    | .Return v _ => match v with
      | some v => mE mc e v
      | none => false
    | _ => false
  | .retN, st => match st with
    | .Return v _ => match v with
      | some _ => false
      | none => true
    | _ => false
  | .ite c a b, st => match st with
    | .If t p q _ => mE mc c t && mSs mc a p && mSs mc b q
    | _ => false
  | .whl _ c b, st => match st with
    | .While t p q _ => match q with
      | [] => mE mc c t && mSs mc b p
      | _ :: _ => false
    | _ => false
  | .for_ t it b, st => match st with
    | .For tg e p q _ => match q with
      | [] => mT mc t tg && mIt mc it (tupB tg) e && mSs mc b p
      | _ :: _ => false
    | _ => false
  | .rais c, st => match st with
    | .Raise e f _ => match f, e with
      | none, some (.Call (.Name x _) [.Constant (.str _) _ _] [] _) => clsB mc x c
      | _, _ => false
    | _ => false
  | .pass, st => match st with
    | .Pass _ => true
    | _ => false
  | .brk, st => match st with
    | .Break _ => true
    | _ => false
  | .cont, st => match st with
    | .Continue _ => true
    | _ => false
  | .fz _, _ => false
  | .tr _ _ _ _, _ => false
def mSs (mc : MC) : Ss → List Stmt → Bool
  | .nil, l => match l with
    | [] => true
    | _ :: _ => false
  | .cons s ss, l => match s with
    | .fz _ => mSs mc ss l
    | s => match l with
      | st :: l => mS mc s st && mSs mc ss l
      | [] => false
end

/-! ## what follows a statement -/
def SRA (G : Glb) (W : WX) (S : Sit) (D : Ends) (r : SR) : Prop := match r with
  | .nx ρ w => ∀ σ' S', Step S S' → OkS G.K S' → S'.w = w → Mt G S' ρ σ' → D.nx σ' S'.H
  | .rt d w => ∀ v S', Step S S' → OkS G.K S' → S'.w = w → dn G S' v d → D.rt v S'.H
  | .bk ρ w => ∀ σ' S', Step S S' → OkS G.K S' → S'.w = w → Mt G S' ρ σ' → D.bk σ' S'.H
  | .ct ρ w => ∀ σ' S', Step S S' → OkS G.K S' → S'.w = w → Mt G S' ρ σ' → D.ct σ' S'.H
  | .ex c ρ w => ∀ σ' S', Step S S' → OkS G.K S' → S'.w = w → Mt G S' ρ σ' → W (.ref (G.ca c)) none σ' S'.H
  | .stk => False
def tSr (G : Glb) (W : WX) (ev : Env → Wd → SR) : TS := fun D σ H => ∃ S ρ, S.H = H ∧ OkS G.K S ∧ Mt G S ρ σ ∧ SRA G W S D (ev ρ S.w)
section
variable {G : Glb} {W : WX} {S S1 : Sit} {σ : L2.St} {ρ : Env} {D : Ends}
theorem SRA.step {r : SR} (A : SRA G W S D r) (p : Step S S1) : SRA G W S1 D r := by
  cases r with
  | nx ρ w => exact fun σ' S' q => A σ' S' (p.trans q)
  | rt d w => exact fun σ' S' q => A σ' S' (p.trans q)
  | bk ρ w => exact fun σ' S' q => A σ' S' (p.trans q)
  | ct ρ w => exact fun σ' S' q => A σ' S' (p.trans q)
  | ex c ρ w => exact fun σ' S' q => A σ' S' (p.trans q)
  | stk => exact A
theorem SRA.sr {α β : Type} {Rl : Sit → β → α → Prop} {r : Res α} {f : α → Wd → SR} {R : β → Hp → Prop} (m : Mt G S ρ σ) (A : SRA G W S D (r.sr ρ f))
    (k : ∀ d v S1, Step S S1 → OkS G.K S1 → Mt G S1 ρ σ → Rl S1 v d → SRA G W S1 D (f d S1.w) → R v S1.H) : Ans G W Rl S σ r R := by
  cases r with
  | ok d w =>
    intro v S' q ok hw h
    subst hw
    exact k d v S' q ok (m.step q) h (SRA.step A q)
  | exc c w => exact fun S' q ok hw => A σ S' q ok hw (m.step q)
  | stk => exact A
theorem tG.sr {α β : Type} {Rl : Sit → β → α → Prop} {ev : Env → Wd → Res α} {f : α → Wd → SR} {R : β → Hp → Prop} (ok : OkS G.K S) (m : Mt G S ρ σ) (A : SRA G W S D ((ev ρ S.w).sr ρ f))
    (k : ∀ d v S1, Step S S1 → OkS G.K S1 → Mt G S1 ρ σ → Rl S1 v d → SRA G W S1 D (f d S1.w) → R v S1.H) : tG G W Rl ev σ S.H R :=
  ⟨S, ρ, rfl, ok, m, SRA.sr m A k⟩
theorem SRA.seq {r : SR} {f : Env → Wd → SR} (A : SRA G W S D (r.seq f)) : SRA G W S { D with nx := tSr G W f D } r := by
  cases r with
  | nx ρ w =>
    intro σ' S' q ok hw m
    subst hw
    exact ⟨S', ρ, rfl, ok, m, SRA.step A q⟩
  | _ => exact A
theorem SRA.turn {r : SR} {f : Env → Wd → SR} {N : L2.St → Hp → Prop} (A : SRA G W S D (r.turn f)) (k : ∀ ρ' σ' S', Step S S' → OkS G.K S' → Mt G S' ρ' σ' → SRA G W S' D (f ρ' S'.w) → N σ' S'.H) : SRA G W S { D with nx := N, ct := N, bk := D.nx } r := by
  cases r with
  | nx ρ w =>
    intro σ' S' q ok hw m
    subst hw
    exact k ρ σ' S' q ok m (SRA.step A q)
  | ct ρ w =>
    intro σ' S' q ok hw m
    subst hw
    exact k ρ σ' S' q ok m (SRA.step A q)
  | bk ρ w => exact A
  | rt d w => exact A
  | ex c ρ w => exact A
  | stk => exact A
theorem SRA.truth {d : Ir.D} {f : Bool → SR} (A : SRA G W S D (match Ir.truth d with
    | some b => f b
    | none => .stk)) : ∃ b, d = .bl b ∧ SRA G W S D (f b) := by
  cases h : Ir.truth d with
  | none => rw [h] at A; exact A.elim
  | some b => rw [h] at A; exact ⟨b, truth_bl h, A⟩
theorem truth_ite {d : Ir.D} {a b : SR} (A : SRA G W S D (match Ir.truth d with
    | some true => a
    | some false => b
    | none => .stk)) : ∃ c, d = .bl c ∧ SRA G W S D (if c = true then a else b) := by
  cases h : Ir.truth d with
  | none => rw [h] at A; exact A.elim
  | some c =>
    rw [h] at A
    cases c with
    | true => exact ⟨true, truth_bl h, A⟩
    | false => exact ⟨false, truth_bl h, A⟩
theorem Res.bind_sr {α β : Type} (r : Res α) (g : α → Wd → Res β) (ρ : Env) (f : β → Wd → SR) : (r.bind g).sr ρ f = r.sr ρ fun a w => (g a w).sr ρ f := by cases r <;> rfl
theorem SRA.of {α : Type} {o : Option α} {f : α → Wd → SR} {ρ : Env} {w : Wd} (A : SRA G W S D ((Res.of o w).sr ρ f)) : ∃ d, o = some d ∧ SRA G W S D (f d w) := by
  cases o with
  | none => exact A.elim
  | some d => exact ⟨d, rfl, A⟩
end
section
variable {X : Cx} {st : Stmt} {sts : List Stmt}
theorem PS.imp {t t' : TS} (h : PS X st t) (k : ∀ D σ H, t' D σ H → t D σ H) : PS X st t' := ⟨fun pins s σ H D I q => h.run pins s σ H D I (k _ _ _ q)⟩
theorem PSs.imp {t t' : TS} (h : PSs X sts t) (k : ∀ D σ H, t' D σ H → t D σ H) : PSs X sts t' := ⟨fun pins s σ H D I q => h.run pins s σ H D I (k _ _ _ q)⟩
end

/-! ## what the text around must be -/
structure GdS (G : Glb) (X : Cx) (mc : MC) (k : Nat) (W : WX) : Prop where
  gd : Gd G X mc k W
  po : PassesOwn (model X.prog X.w) X.A X.env X.xe
  kind : mc.sc.kind = .function
/-- the exceptions' classes -/
structure ClsOk (G : Glb) (c : Nat) (x : Str) : Prop where
  g : G.mg x = some (.ref (G.ca c))
  keep : PySem.W.keepIn G.K (.ref (G.ca c)) = true
  r1 : PySem.W.subIn G.K (.ref (G.ca c)) (.type "BaseException") = some true
  r2 : PySem.W.typeIn G.K (.ref (G.ca c)) = some (.type "type")
  ex : ∃ bmB B newId initId, ExcBaseFacts B newId initId bmB ∧ PySem.W.excIn G.K (G.ca c) bmB newId = true
def Gcl (G : Glb) : Prop := ∀ x c, G.tab.lookup x = some (.cls c) → ClsOk G c x
end Ir
/-! # the statements keep to the evaluator -/
namespace Ir
open PySem PySem.Spec PyProof.Rows L2
section
variable {G : Glb} {k : Nat} {X : Cx} {mc : MC} {W : WX}
theorem swaps_of {ir : E} {e : Expr} (h : mE mc ir e = true) (hl : lcB ir = false) (t : Option Expr) (n : Nat) (env : PySem.Env) : swapsWith e t n env = pure false := by
  cases ir <;> cases e <;> first | rfl | exact absurd h Bool.false_ne_true | exact absurd hl.symm Bool.false_ne_true
theorem stores_of {ir : E} {e : Expr} (h : mE mc ir e = true) (hl : tupE ir = false) (ts : List Expr) (kt : Nat) (pt : Pos) (env : PySem.Env) : swappedStores [.Tuple ts kt pt] e env = pure none := by
  cases ir <;> cases e <;> first | rfl | exact absurd h Bool.false_ne_true | exact absurd hl.symm Bool.false_ne_true
theorem tgt_each {t : Tg} {tg : Expr} (h : mT mc t tg = true) (env : PySem.Env) : (assignEach [tg] env).map (·.2) = [assign tg env] := by
  cases t <;> cases tg <;> first | rfl | exact absurd h Bool.false_ne_true
/-- a value that goes to a target -/
theorem asg_end {S : Sit} {σ : L2.St} {ρ : Env} {D : Ends} {t : Tg} {d : Ir.D} {v : V} (ok : OkS G.K S) (m : Mt G S ρ σ) (hv : dn G S v d) (A : SRA G W S D (match bindT t d ρ with
    | some ρ' => .nx ρ' S.w
    | none => .stk)) : tT G t v σ S.H D.nx := by
  cases q : bindT t d ρ with
  | none => rw [q] at A; exact A.elim
  | some ρ' =>
    rw [q] at A
    exact ⟨S, ρ, d, ρ', rfl, ok, m, hv, q, fun σ' m' _ _ => A σ' S (.refl S) ok rfl m'⟩
theorem asg_key {F : Nat → List D → Wd → Res D} {sub : Nat → Nat → Bool} {t : Tg} {e : E} (hF : G.F = F) : ∀ D σ H, tSr G W (evS F sub (.asg t e)) D σ H → tAsg (tE G W e) (tT G t) D σ H := by
  intro D σ H ⟨S, ρ, hH, ok, m, A⟩
  subst hH hF
  rw [evS] at A
  exact tG.sr ok m A fun d v S1 p ok1 m1 hv A1 => asg_end ok1 m1 hv A1
theorem asg_plain (g : Gd G X mc k W) {sub : Nat → Nat → Bool} {t : Tg} {e : E} {tg v : Expr} {pos : Pos} (he : PE X v (tE G W e)) (hg : PG X tg (tT G t)) (h1 : mE mc e v = true) (h2 : mT mc t tg = true) (h3 : plainA mc e tg v = true) (hk : mc.sc.kind = .function) :
    PS X (.Assign [tg] v pos) (tSr G W (evS G.F sub (.asg t e))) := by
  refine PS.imp (ps_asg he hg ?_ ?_ (tgt_each h2 _)) (asg_key rfl)
  · cases tg with
    | Name y py =>
      by_cases q : lcB e = true
      · cases e with
        | lc cell t' it c elt =>
          obtain ⟨elt', tg', iter, ifs, scope, lpos, rfl, _⟩ := lc_form h1
          have h3 : (!swC mc y py lpos scope) = true := h3
          simp only [Bool.not_eq_true'] at h3
          have hb : X.env.blockKind = .function := by
            unfold Env.blockKind
            rw [g.sc, hk]; rfl
          have hz : (X.env.blockKind == .function && X.env.kindOf y == some .local && py.line == lpos.line && !(scope.names.any fun (n, k) => n == y && (k == .local || k == .cell))) = false := by
            rw [← h3, hb]
            unfold swC
            rw [hk]
            show (_ && X.env.scope.names.lookup y == some .local && _ && _) = _
            rw [g.sc]
          rw [swapsWithSole]
          show (pure (X.env.blockKind == .function && X.env.kindOf y == some .local && py.line == lpos.line && !(scope.names.any fun (n, k) => n == y && (k == .local || k == .cell))) : Sem Bool) = pure false
          rw [hz]
        | _ => exact absurd q Bool.false_ne_true
      · rw [swapsWithSole]
        exact swaps_of h1 (by simpa using q) _ _ _
    | Tuple ts kt pt =>
      by_cases q : lcB e = true
      · cases e with
        | lc cell t' it c elt =>
          obtain ⟨elt', tg', iter, ifs, scope, lpos, rfl, _⟩ := lc_form h1
          rfl
        | _ => exact absurd q Bool.false_ne_true
      · rw [swapsWithSole]
        exact swaps_of h1 (by simpa using q) _ _ _
    | _ => exact absurd h3 Bool.false_ne_true
  · cases tg with
    | Name y py => rfl
    | Tuple ts kt pt =>
      by_cases q : tupE e = true
      · cases e with
        | tup es =>
          cases v with
          | Tuple vs kv pv =>
            have h3 : decide (swSt mc.sc ts vs = some none) = true := h3
            exact swSt_eq g.sc (.inl hk) (of_decide_eq_true h3)
          | _ => exact absurd h1 Bool.false_ne_true
        | _ => exact absurd q Bool.false_ne_true
      · exact stores_of h1 (by simpa using q) _ _ _ _
    | _ => exact absurd h3 Bool.false_ne_true
theorem Mt.len {S : Sit} {σ : L2.St} {ρ : Env} (m : Mt G S ρ σ) : ρ.length = σ.length := m.1
theorem asg_par2 {es : Es} {i j : Nat} {sub : Nat → Nat → Bool} : ∀ D σ H, tSr G W (evS G.F sub (.asg (.tup (.cons (.nm i) (.cons (.nm j) .nil))) (.tup es))) D σ H → tPar i j (tEs G W es) D σ H := by
  intro D σ H ⟨S, ρ, hH, ok, m, A⟩
  subst hH
  rw [evS, evE, Res.bind_sr] at A
  refine tG.sr ok m A fun ds vs S1 p ok1 m1 hv A1 => ?_
  have A1 : SRA G W S1 D (match bindTs (.cons (.nm i) (.cons (.nm j) .nil)) ds ρ with
    | some ρ' => .nx ρ' S1.w
    | none => .stk) := A1
  match ds, hv, A1 with
  | [d, d'], hv, A1 =>
    obtain ⟨v, u, rfl, hd, hd'⟩ := den2 hv
    refine ⟨v, u, rfl, ?_⟩
    rw [bindTs, bindT] at A1
    by_cases hi : i < ρ.length
    · rw [if_pos hi] at A1
      dsimp only at A1
      rw [bindTs, bindT] at A1
      by_cases hj : j < (ρ.set i (some d)).length
      · rw [if_pos hj] at A1
        exact A1 _ S1 (.refl S1) ok1 rfl ((m1.set hd).set hd')
      · rw [if_neg hj] at A1; exact A1.elim
    · rw [if_neg hi] at A1; exact A1.elim
  | [], hv, A1 => exact A1.elim
  | [d], hv, A1 =>
    rw [bindTs, bindT] at A1
    by_cases hi : i < ρ.length
    · rw [if_pos hi] at A1; exact A1.elim
    · rw [if_neg hi] at A1; exact A1.elim
  | d :: d' :: d'' :: ds, hv, A1 =>
    rw [bindTs, bindT] at A1
    by_cases hi : i < ρ.length
    · rw [if_pos hi] at A1
      dsimp only at A1
      rw [bindTs, bindT] at A1
      by_cases hj : j < (ρ.set i (some d)).length
      · rw [if_pos hj] at A1; exact A1.elim
      · rw [if_neg hj] at A1; exact A1.elim
    · rw [if_neg hi] at A1; exact A1.elim
theorem bind3 {i j l : Nat} {ds : List Ir.D} {ρ ρ' : Env} (h : bindTs (.cons (.nm i) (.cons (.nm j) (.cons (.nm l) .nil))) ds ρ = some ρ') : ∃ a b c, ds = [a, b, c] ∧ ρ' = ((ρ.set i (some a)).set j (some b)).set l (some c) := by
  match ds, h with
  | [a, b, c], h =>
    rw [bindTs, bindT] at h
    by_cases hi : i < ρ.length
    · rw [if_pos hi] at h
      dsimp only at h
      rw [bindTs, bindT] at h
      by_cases hj : j < (ρ.set i (some a)).length
      · rw [if_pos hj] at h
        dsimp only at h
        rw [bindTs, bindT] at h
        by_cases hl : l < ((ρ.set i (some a)).set j (some b)).length
        · rw [if_pos hl] at h
          dsimp only at h
          rw [bindTs] at h
          exact ⟨a, b, c, rfl, (Option.some.inj h).symm⟩
        · rw [if_neg hl] at h; cases h
      · rw [if_neg hj] at h; cases h
    · rw [if_neg hi] at h; cases h
  | [], h => cases h
  | [a], h =>
    rw [bindTs, bindT] at h
    by_cases hi : i < ρ.length
    · rw [if_pos hi] at h; cases h
    · rw [if_neg hi] at h; cases h
  | [a, b], h =>
    rw [bindTs, bindT] at h
    by_cases hi : i < ρ.length
    · rw [if_pos hi] at h
      dsimp only at h
      rw [bindTs, bindT] at h
      by_cases hj : j < (ρ.set i (some a)).length
      · rw [if_pos hj] at h; cases h
      · rw [if_neg hj] at h; cases h
    · rw [if_neg hi] at h; cases h
  | a :: b :: c :: d :: ds, h =>
    rw [bindTs, bindT] at h
    by_cases hi : i < ρ.length
    · rw [if_pos hi] at h
      dsimp only at h
      rw [bindTs, bindT] at h
      by_cases hj : j < (ρ.set i (some a)).length
      · rw [if_pos hj] at h
        dsimp only at h
        rw [bindTs, bindT] at h
        by_cases hl : l < ((ρ.set i (some a)).set j (some b)).length
        · rw [if_pos hl] at h; cases h
        · rw [if_neg hl] at h; cases h
      · rw [if_neg hj] at h; cases h
    · rw [if_neg hi] at h; cases h
theorem asg_par3 {es : Es} {i j l : Nat} {sub : Nat → Nat → Bool} : ∀ D σ H, tSr G W (evS G.F sub (.asg (.tup (.cons (.nm i) (.cons (.nm j) (.cons (.nm l) .nil)))) (.tup es))) D σ H → tPar3 i j l (tEs G W es) D σ H := by
  intro D σ H ⟨S, ρ, hH, ok, m, A⟩
  subst hH
  rw [evS, evE, Res.bind_sr] at A
  refine tG.sr ok m A fun ds vs S1 p ok1 m1 hv A1 => ?_
  have A1 : SRA G W S1 D (match bindTs (.cons (.nm i) (.cons (.nm j) (.cons (.nm l) .nil))) ds ρ with
    | some ρ' => .nx ρ' S1.w
    | none => .stk) := A1
  cases q : bindTs (.cons (.nm i) (.cons (.nm j) (.cons (.nm l) .nil))) ds ρ with
  | none => rw [q] at A1; exact A1.elim
  | some ρ' =>
    rw [q] at A1
    obtain ⟨a, b, c, rfl, rfl⟩ := bind3 q
    cases hv with
    | cons ha hv =>
      obtain ⟨v, u, rfl, hb, hc⟩ := den2 hv
      exact ⟨_, v, u, rfl, A1 _ S1 (.refl S1) ok1 rfl (((m1.set ha).set hb).set hc)⟩
theorem loc_of (g : Gd G X mc k W) {x : Str} (h : locB mc x = true) : X.env.scope.names.lookup x = some .local := by
  rw [g.sc]; exact beq_iff_eq.mp h
theorem asg_par (g : Gd G X mc k W) (ok : Gok G k) {sub : Nat → Nat → Bool} {t : Tg} {e : E} {tg v : Expr} {pos : Pos} (h1 : mE mc e v = true) (h2 : mT mc t tg = true) (h3 : parA mc t e tg v = true) (hk : mc.sc.kind = .function) :
    PS X (.Assign [tg] v pos) (tSr G W (evS G.F sub (.asg t e))) := by
  unfold parA at h3
  split at h3
  · rename_i i j ea eb
    split at h3
    · rename_i x px y py kt pt a b kv pv
      dsimp only at h3
      simp only [Bool.and_eq_true, decide_eq_true_eq] at h3
      obtain ⟨⟨⟨q1, q2⟩, q3⟩, q4⟩ := h3
      have h1 : (mEs mc (.cons ea (.cons eb .nil)) [a, b] && decide (([a, b] : List Expr).length ≤ 1000)) = true := h1
      have h2 : (mT mc (.nm i) (.Name x px) && (mT mc (.nm j) (.Name y py) && true)) = true := h2
      obtain ⟨h1, _⟩ := Bool.and_eq_true_iff.mp h1
      obtain ⟨h2, h4⟩ := Bool.and_eq_true_iff.mp h2
      obtain ⟨h4, _⟩ := Bool.and_eq_true_iff.mp h4
      have h2 : (decide (mc.N[i]? = some x) && stB mc x) = true := h2
      have h4 : (decide (mc.N[j]? = some y) && stB mc y) = true := h4
      have n1 := of_decide_eq_true (Bool.and_eq_true_iff.mp h2).1
      have n2 := of_decide_eq_true (Bool.and_eq_true_iff.mp h4).1
      exact PS.imp (ps_par g.calm (by rw [g.N]; exact g.nd) (by rw [g.N]; exact n1) (by rw [g.N]; exact n2) q2 (loc_of g q3) (loc_of g q4) (sEs ok _ X mc W _ g h1) (swSt_eq g.sc (.inl hk) q1)) asg_par2
    · exact absurd h3 Bool.false_ne_true
  · rename_i i j l ea eb ec
    split at h3
    · rename_i x px y py z pz kt pt a b c kv pv
      dsimp only at h3
      simp only [Bool.and_eq_true, decide_eq_true_eq] at h3
      obtain ⟨⟨⟨⟨⟨⟨q1, q2⟩, q5⟩, q6⟩, q3⟩, q4⟩, q7⟩ := h3
      have h1 : (mEs mc (.cons ea (.cons eb (.cons ec .nil))) [a, b, c] && decide (([a, b, c] : List Expr).length ≤ 1000)) = true := h1
      have h2 : (mT mc (.nm i) (.Name x px) && (mT mc (.nm j) (.Name y py) && (mT mc (.nm l) (.Name z pz) && true))) = true := h2
      obtain ⟨h1, _⟩ := Bool.and_eq_true_iff.mp h1
      obtain ⟨h2, h4⟩ := Bool.and_eq_true_iff.mp h2
      obtain ⟨h4, h5⟩ := Bool.and_eq_true_iff.mp h4
      obtain ⟨h5, _⟩ := Bool.and_eq_true_iff.mp h5
      have h2 : (decide (mc.N[i]? = some x) && stB mc x) = true := h2
      have h4 : (decide (mc.N[j]? = some y) && stB mc y) = true := h4
      have h5 : (decide (mc.N[l]? = some z) && stB mc z) = true := h5
      have n1 := of_decide_eq_true (Bool.and_eq_true_iff.mp h2).1
      have n2 := of_decide_eq_true (Bool.and_eq_true_iff.mp h4).1
      have n3 := of_decide_eq_true (Bool.and_eq_true_iff.mp h5).1
      exact PS.imp (ps_par3 g.calm (by rw [g.N]; exact g.nd) (by rw [g.N]; exact n1) (by rw [g.N]; exact n2) (by rw [g.N]; exact n3) q2 q5 q6 (loc_of g q3) (loc_of g q4) (loc_of g q7) (sEs ok _ X mc W _ g h1) (swSt_eq g.sc (.inl hk) q1)) asg_par3
    · exact absurd h3 Bool.false_ne_true
  · exact absurd h3 Bool.false_ne_true
end
end Ir
namespace Ir
open PySem PySem.Spec PyProof.Rows L2
section
variable {G : Glb} {k : Nat} {X : Cx} {mc : MC} {W : WX}
/-- name = [..] on one line -/
theorem asg_lc (g : Gd G X mc k W) (ok : Gok G k) {sub : Nat → Nat → Bool} {t : Tg} {e : E} {tg v : Expr} {pos : Pos} (h1 : mE mc e v = true) (h2 : mT mc t tg = true) (h3 : lcA mc tg v = true) :
    PS X (.Assign [tg] v pos) (tSr G W (evS G.F sub (.asg t e))) := by
  cases tg with
  | Name y py =>
    cases v with
    | ListComp elt' gs scope lpos =>
      have h3 : swC mc y py lpos scope = true := h3
      unfold swC at h3
      simp only [Bool.and_eq_true, Bool.not_eq_true'] at h3
      obtain ⟨⟨⟨hk, hy⟩, hl⟩, ha⟩ := h3
      cases t with
      | tup ts => exact absurd h2 Bool.false_ne_true
      | nm j =>
        have h2 : (decide (mc.N[j]? = some y) && stB mc y) = true := h2
        have hj := of_decide_eq_true (Bool.and_eq_true_iff.mp h2).1
        cases e with
        | lc cell t it c elt =>
          obtain ⟨elt'', tg, iter, ifs, scope', lpos', e', q1, q2, q3, q4, q5⟩ := lc_form h1
          cases e'
          have hyl : X.env.scope.names.lookup y = some .local := by rw [g.sc]; exact beq_iff_eq.mp hy
          have hkk : X.env.scope.kind = .function := by rw [g.sc]; exact beq_iff_eq.mp hk
          have ht : ∀ (s : Shared) (H : Hp) (C : Addr) (cl : List (Str × Addr)) (fp : List Addr), PTs (X.blk s H scope (compEnvC scope cl C X.env) fp) ifs (tTest (tE G (fun _ _ _ _ => False) c)) := by
            intro s H C cl fp
            rcases q4 with ⟨rfl, q4⟩ | ⟨i, rfl, q4⟩
            · subst q4
              exact pts_con
            · exact pts_one (sE ok c _ _ _ i (g.blk scope s H C cl fp) q4).2
          refine PS.imp (ps_setLc g.calm (by rw [g.N]; exact g.nd) (by rw [g.N]; exact hj) hyl (sw_true hkk hyl hl ha) (sIt ok it X mc W tg iter g q1) (blk_of g q2)
            (fun s H C cl fp => sT (g.blk scope s H C cl fp) t tg q3) ht (fun s H C cl fp => (sE ok elt _ _ _ elt' (g.blk scope s H C cl fp) q5).1) (fold_it q1 _)) fun D σ H q => ?_
          have q := asg_key (sub := sub) rfl D σ H q
          refine lc_sound (pos := lpos) (cell := cell) g (sIt ok it X mc W tg iter g q1) q2 (fun s H C cl fp => sT (g.blk scope s H C cl fp) t tg q3) ht (fun s H C cl fp => (sE ok elt _ _ _ elt' (g.blk scope s H C cl fp) q5).1) (fold_it q1 _) σ H _ ?_
          obtain ⟨S, ρ, e1, e2, e3, e4⟩ := q
          refine ⟨S, ρ, e1, e2, e3, ?_⟩
          have hlen : ∀ (d : Ir.D) (v : V) (S1 : Sit), OkS G.K S1 → ∀ Q : L2.St → Hp → Prop, tT G (.nm j) v σ S1.H Q → gName j v σ S1.H Q := by
            intro d v S1 ok1 Q ⟨S', ρ', d', ρ'', r1, r2, r3, r4, r5, r6⟩
            have r5 : (if j < ρ'.length then some (ρ'.set j (some d')) else none) = some ρ'' := r5
            by_cases hj' : j < ρ'.length
            · rw [if_pos hj'] at r5
              cases r5
              exact r6 _ (r3.set r4) (List.length_set ..) fun m hm => List.getElem?_set_ne fun z => hm (by rw [z]; exact List.mem_singleton.mpr rfl)
            · rw [if_neg hj'] at r5; cases r5
          revert e4
          generalize evE G.F (.lc cell t it c elt) ρ S.w = r
          intro e4
          cases r with
          | ok d w => exact fun v S' p ok' hw hd => hlen d v S' ok' _ (e4 v S' p ok' hw hd)
          | exc c w => exact e4
          | stk => exact e4
        | _ => exact absurd h1 Bool.false_ne_true
    | _ => exact absurd h3 Bool.false_ne_true
  | _ => exact absurd h3 Bool.false_ne_true

/-! ## name op= e -/
def Rg (K : PySem.W.Frag) (o : BOp) : R2 := fun x y H Q => ∃ S dx dy, S.H = H ∧ OkS K S ∧ Den K S.I S.L x dx ∧ Den K S.I S.L y dy ∧ AnsR K S (augD o dx dy S.w) Q
theorem ip_aug {o : BOp} {op : Operator} (h : augB o op = true) : PIp X op (Rg X.K o) := by
  intro pins s σ H x y v u Q I rx ry ⟨S, dx, dy, hH, ok, hx, hy, A⟩
  subst hH
  cases dx with
  | int i =>
    cases dy with
    | int j =>
      cases hx
      cases hy
      cases o with
      | add =>
        cases op with
        | Add => exact iop_add pins s σ S.H _ _ v u Q I rx ry ⟨i, j, rfl, rfl, A _ S (.refl S) ok rfl (.int _)⟩
        | _ => exact absurd h Bool.false_ne_true
      | sub =>
        cases op with
        | Sub => exact iop_sub pins s σ S.H _ _ v u Q I rx ry ⟨i, j, rfl, rfl, A _ S (.refl S) ok rfl (.int _)⟩
        | _ => exact absurd h Bool.false_ne_true
      | _ => exact absurd h Bool.false_ne_true
    | _ => exact A.elim
  | loc n =>
    cases o with
    | add =>
      cases op with
      | Add =>
        have A : AnsR X.K S (match (generalizing := false) BOp.add, S.w[n]?, dr S.w dy with
          | .add, some (.lst xs), some (.lst ys) => if xs.length + ys.length ≤ line then .ok (.loc n) (S.w.set n (.lst (xs ++ ys))) else .stk
          | _, _, _ => .stk) Q := A
        cases q : S.w[n]? with
        | none => rw [q] at A; exact A.elim
        | some c =>
          rw [q] at A
          cases c with
          | lst xs =>
            cases q' : dr S.w dy with
            | none => rw [q'] at A; exact A.elim
            | some d' =>
              rw [q'] at A
              cases d' with
              | lst ys =>
                have A : AnsR X.K S (if xs.length + ys.length ≤ line then .ok (.loc n) (S.w.set n (.lst (xs ++ ys))) else .stk) Q := A
                by_cases hz : xs.length + ys.length ≤ line
                · rw [if_pos hz] at A
                  cases hx with
                  | @loc a n hl =>
                    have nd : Cell.lst xs ≠ .dead := fun z => nomatch z
                    obtain ⟨b, hb, _, cr⟩ := ok.cell n _ q nd
                    rw [hl] at hb; cases hb
                    cases cr with
                    | lst e1 hs =>
                      obtain ⟨b, us, rfl, hb, hd⟩ := lst_of ok hy q'
                      refine iop_ext pins s σ S.H _ _ v u Q I rx ry ⟨a, b, _, _, rfl, rfl, e1, hb, ?_, ?_⟩
                      · rw [← line_eq, hs.length, hd.length]; exact hz
                      · exact A (.ref a) (S.put n a (.lst _) (.lst (xs ++ ys))) (step_put q nd hl) (ok_put ok q nd hl (hs.append hd)) rfl (.loc hl)
                · rw [if_neg hz] at A; exact A.elim
              | _ => exact A.elim
          | _ => exact A.elim
      | _ => exact absurd h Bool.false_ne_true
    | sub =>
      have A : AnsR X.K S (match (generalizing := false) BOp.sub, S.w[n]?, dr S.w dy with
          | .add, some (.lst xs), some (.lst ys) => if xs.length + ys.length ≤ line then .ok (.loc n) (S.w.set n (.lst (xs ++ ys))) else .stk
          | _, _, _ => .stk) Q := A
      exact A.elim
    | _ => exact absurd h Bool.false_ne_true
  | _ => exact A.elim
theorem aug_noexc {o : BOp} {x y : D} {w : Wd} (c : Nat) (w' : Wd) : augD o x y w ≠ .exc c w' := by
  unfold augD
  split
  · split
    · split <;> exact fun z => nomatch z
    · exact fun z => nomatch z
  · split
    · split <;> exact fun z => nomatch z
    · exact fun z => nomatch z
  · exact fun z => nomatch z
theorem aug_sound (g : Gd G X mc k W) {sub : Nat → Nat → Bool} {i : Nat} {o : BOp} {e : E} {op : Operator} {x : Str} {v : Expr} {xp pos : Pos} (he : PE X v (tE G W e)) (h1 : mc.N[i]? = some x) (h2 : stB mc x = true) (h3 : augB o op = true) :
    PS X (.AugAssign (.Name x xp) op v pos) (tSr G W (evS G.F sub (.aug i o e))) := by
  obtain ⟨l1, l2⟩ := st_of g h2
  refine PS.imp (ps_aug (i := i) (by rw [g.N]; exact g.nd) (by rw [g.N]; exact h1) l1 he (ip_aug h3) l2) fun D σ H ⟨S, ρ, hH, ok, m, A⟩ => ?_
  subst hH
  rw [evS] at A
  unfold lk at A
  cases q : ρ[i]? with
  | none => rw [q] at A; exact A.elim
  | some o' =>
    rw [q] at A
    cases o' with
    | none => exact A.elim
    | some d =>
      obtain ⟨y, hy, hd⟩ := m.2 i d q
      refine ⟨y, hy, tG.sr ok m A fun d' v' S1 p1 ok1 m1 hv A1 => ?_⟩
      rw [g.K]
      refine ⟨S1, d, d', rfl, ok1, Den.step hd p1, hv, ?_⟩
      have A1 : SRA G W S1 D ((augD o d d' S1.w).sr ρ fun z w => .nx (ρ.set i (some z)) w) := A1
      revert A1
      cases r : augD o d d' S1.w with
      | ok z w => exact fun A1 v2 S2 p2 ok2 hw hz => A1 _ S2 p2 ok2 hw ((m1.step p2).set hz)
      | exc c w => exact absurd r (aug_noexc c w)
      | stk => exact id

/-! ## a[i] = e -/
theorem sub_of {ir : E} {y : Expr} (h : mE mc ir y = true) (x : Expr) (p : Pos) (env : PySem.Env) (v : Value) : assign (.Subscript x y p) env v = (do
      let ov ← holding [v] (eval x env)
      let iv ← holding [v, ov] (eval y env)
      standAt p
      holding [v, ov, iv] (setItem ov iv v)
      release [v, ov, iv] []) := by
  cases ir <;> cases y <;> first | rfl | exact absurd h Bool.false_ne_true
theorem set_sound (g : Gd G X mc k W) {sub : Nat → Nat → Bool} {a i e : E} {x y v : Expr} {xp pos : Pos} (hl : lcB e = false) (h3 : mE mc e v = true) (h2 : mE mc i y = true) (ia : PE X x (tE G W a)) (ii : PE X y (tE G W i)) (ie : PE X v (tE G W e)) :
    PS X (.Assign [.Subscript x y xp] v pos) (tSr G W (evS G.F sub (.setix a i e))) := by
  refine PS.imp (ps_asg ie (pg_sub ia ii set_list (sub_of h2 x xp _)) (by rw [swapsWithSole]; exact swaps_of h3 hl _ _ _) rfl rfl) fun D σ H ⟨S, ρ, hH, ok, m, A⟩ => ?_
  subst hH
  rw [evS] at A
  refine tG.sr ok m A fun d v1 S1 p1 ok1 m1 hv A1 => ?_
  refine tG.sr ok1 m1 A1 fun d2 v2 S2 p2 ok2 m2 hv2 A2 => ?_
  refine tG.sr ok2 m2 A2 fun d3 v3 S3 p3 ok3 m3 hv3 A3 => ?_
  have A3 : SRA G W S3 D (match setD d2 d3 d S3.w with
    | some w' => .nx ρ w'
    | none => .stk) := A3
  cases hv2 with
  | @loc a n hl =>
    unfold setD at A3
    dsimp only at A3
    cases q : S3.w[n]? with
    | none => rw [q] at A3; exact A3.elim
    | some c =>
      rw [q] at A3
      cases c with
      | lst xs =>
        cases d3 with
        | int kk =>
          dsimp only at A3
          cases q' : ixN xs.length kk with
          | none => rw [q'] at A3; exact A3.elim
          | some j =>
            rw [q'] at A3
            have nd : Cell.lst xs ≠ .dead := fun z => nomatch z
            have hl3 : S3.L[n]? = some a := p3.L n a hl
            obtain ⟨b, hb, _, cr⟩ := ok3.cell n _ q nd
            rw [hl3] at hb; cases hb
            cases cr with
            | @lst vs' _ e1 hs =>
              have hd := Den.step (Den.step hv p2) p3
              refine ⟨a, _, kk, j, rfl, den_int hv3, e1, by rw [hs.length]; exact q', ?_⟩
              have ok4 := ok_put ok3 q nd hl3 (DenA.set j hs hd)
              have st4 := step_put q nd hl3 (o := .lst (List.set vs' j v1)) (c := .lst (xs.set j d))
              exact A3 σ (S3.put n a (.lst _) (.lst (xs.set j d))) st4 ok4 rfl (m3.step st4)
        | _ => exact A3.elim
      | _ => exact A3.elim
  | _ => exact A3.elim

/-! ## loops -/
theorem whl_key {sub : Nat → Nat → Bool} {c : E} {b : Ss} {n : Nat} : ∀ D σ H, tSr G W (evS G.F sub (.whl n c b)) D σ H → tWhile (tTest (tE G W c)) (tSr G W (evSs G.F sub b)) D σ H := by
  intro D σ H ⟨S, ρ, hH, ok, m, A⟩
  subst hH
  have A : SRA G W S D (whlL (evE G.F c) (evSs G.F sub b) n ρ S.w) := A
  refine ⟨fun n σ H => tSr G W (whlL (evE G.F c) (evSs G.F sub b) n) D σ H, ⟨n, S, ρ, rfl, ok, m, A⟩, ?_⟩
  rintro n σ H ⟨S, ρ, hH, ok, m, A⟩
  subst hH
  cases n with
  | zero => exact A.elim
  | succ n =>
    rw [whlL] at A
    refine tG.sr ok m A fun d v S1 p1 ok1 m1 hv A1 => ?_
    obtain ⟨t, e, A2⟩ := truth_ite A1
    subst e
    clear A1
    refine ⟨t, den_bl hv, ?_⟩
    cases t with
    | true =>
      rw [if_pos rfl] at A2 ⊢
      refine ⟨tSr G W (whlL (evE G.F c) (evSs G.F sub b) n) D, fun σ' H' h => ⟨n, Nat.lt_succ_self n, h⟩, S1, ρ, rfl, ok1, m1, ?_⟩
      exact SRA.turn A2 fun ρ' σ' S' p ok' m' A' => ⟨S', ρ', rfl, ok', m', A'⟩
    | false =>
      rw [if_neg Bool.false_ne_true] at A2 ⊢
      exact A2 σ S1 (.refl S1) ok1 rfl m1
theorem for_key {sub : Nat → Nat → Bool} {t : Tg} {it : It} {b : Ss} : ∀ D σ H, tSr G W (evS G.F sub (.for_ t it b)) D σ H → tFor (tIt G W it) (tT G t) (tSr G W (evSs G.F sub b)) D σ H := by
  intro D σ H ⟨S, ρ, hH, ok, m, A⟩
  subst hH
  rw [evS] at A
  refine tG.sr ok m A fun ds J S1 p1 ok1 m1 wk A1 => ?_
  have A1 : SRA G W S1 D (forL t (evSs G.F sub b) ds ρ S1.w) := A1
  refine ⟨fun i mm σ H => ∃ S ρ, S.H = H ∧ OkS G.K S ∧ Step S1 S ∧ Mt G S ρ σ ∧ mm = ds.length - i ∧ i ≤ ds.length ∧ SRA G W S D (forL t (evSs G.F sub b) (ds.drop i) ρ S.w), ⟨ds.length, S1, ρ, rfl, ok1, .refl S1, m1, rfl, Nat.zero_le _, A1⟩, ?_⟩
  rintro i mm σ H ⟨S2, ρ2, hH, ok2, st, m2, rfl, hi, A2⟩
  subst hH
  by_cases hlt : i < ds.length
  · refine .inr ⟨((wk S2 st ok2 i).1 ds[i] (by simp [hlt])).1, fun σ' H' => ∃ S ρ, S.H = H' ∧ OkS G.K S ∧ Step S1 S ∧ Mt G S ρ σ' ∧ SRA G W S D (forL t (evSs G.F sub b) (ds.drop (i + 1)) ρ S.w), ?_, ?_⟩
    · rintro σ' H' ⟨S3, ρ3, e1, e2, e3, e4, e5⟩
      exact ⟨ds.length - (i + 1), by omega, S3, ρ3, e1, e2, e3, e4, rfl, by omega, e5⟩
    · intro x H' y
      obtain ⟨S3, p3, ok3, w3, h3, d3⟩ := ((wk S2 st ok2 i).1 ds[i] (by simp [hlt])).2 x H' y
      subst h3
      rw [List.drop_eq_getElem_cons hlt, forL] at A2
      rw [← w3] at A2
      have A3 := SRA.step A2 p3
      cases q : bindT t ds[i] ρ2 with
      | none => rw [q] at A3; exact A3.elim
      | some ρ' =>
        rw [q] at A3
        refine ⟨S3, ρ2, ds[i], ρ', rfl, ok3, m2.step p3, d3, q, fun σ' m' _ _ => ⟨S3, ρ', rfl, ok3, m', ?_⟩⟩
        exact SRA.turn A3 fun ρ'' σ'' S' p ok' m'' A' => ⟨S', ρ'', rfl, ok', (st.trans p3).trans p, m'', A'⟩
  · refine .inl ⟨(wk S2 st ok2 i).2 (by omega), ?_⟩
    rw [List.drop_eq_nil_of_le (by omega)] at A2
    exact A2 σ S2 (.refl S2) ok2 rfl m2
theorem ite_key {sub : Nat → Nat → Bool} {c : E} {a b : Ss} : ∀ D σ H, tSr G W (evS G.F sub (.ite c a b)) D σ H → tIfS (tTest (tE G W c)) (tSr G W (evSs G.F sub a)) (tSr G W (evSs G.F sub b)) D σ H := by
  intro D σ H ⟨S, ρ, hH, ok, m, A⟩
  subst hH
  rw [evS] at A
  refine tG.sr ok m A fun d v S1 p1 ok1 m1 hv A1 => ?_
  obtain ⟨t, e, A2⟩ := truth_ite A1
  subst e
  clear A1
  refine ⟨t, den_bl hv, ?_⟩
  cases t with
  | true => rw [if_pos rfl] at A2 ⊢; exact ⟨S1, ρ, rfl, ok1, m1, A2⟩
  | false => rw [if_neg Bool.false_ne_true] at A2 ⊢; exact ⟨S1, ρ, rfl, ok1, m1, A2⟩
theorem cls_of (g : Gd G X mc k W) (cl : Gcl G) {x : Str} {c : Nat} (h : clsB mc x c = true) : Gl X x ∧ ClsOk G c x ∧ nmOk x = true := by
  unfold clsB at h
  simp only [Bool.and_eq_true] at h
  obtain ⟨⟨h1, h2⟩, h3⟩ := h
  refine ⟨g.gl h1, ?_, h2⟩
  rw [g.tab] at h3
  cases q : G.tab.lookup x with
  | none => rw [q] at h3; exact absurd h3 Bool.false_ne_true
  | some t =>
    rw [q] at h3
    cases t with
    | cls d => rw [beq_iff_eq.mp h3]; exact cl x d q
    | _ => exact absurd h3 Bool.false_ne_true
theorem rais_sound (g : Gd G X mc k W) (cl : Gcl G) {sub : Nat → Nat → Bool} {x m : Str} {c j : Nat} {p1 p2 p3 p4 : Pos} (h : clsB mc x c = true) :
    PS X (.Raise (some (.Call (.Name x p1) [.Constant (.str m) j p2] [] p3)) none p4) (tSr G W (evS G.F sub (.rais c))) := by
  obtain ⟨g1, co, n1⟩ := cls_of g cl h
  obtain ⟨bmB, B, newId, initId, F, q⟩ := co.ex
  have r : Raises X (.ref (G.ca c)) := raises_own (by rw [g.K]; exact co.r1) (by rw [g.K]; exact co.r2)
  refine PS.imp (ps_raise g.calm g.takes (pmk_own F (by rw [g.K]; exact q) (by rw [g.mg]; exact co.g) (by rw [g.K]; exact co.keep) r g1 (nm_debug n1))) fun D σ H ⟨S, ρ, hH, ok, mm, A⟩ => ?_
  subst hH
  exact A σ S (.refl S) ok rfl mm
theorem fz_key {sub : Nat → Nat → Bool} {i : Nat} {ss : Ss} : ∀ D σ H, tSr G W (evSs G.F sub (.cons (.fz i) ss)) D σ H → tSr G W (evSs G.F sub ss) D σ H := by
  intro D σ H ⟨S, ρ, hH, ok, m, A⟩
  subst hH
  have A : SRA G W S D ((fzD i ρ S.w).seq fun ρ w => evSs G.F sub ss ρ w) := A
  unfold fzD lk at A
  cases q : ρ[i]? with
  | none => rw [q] at A; exact A.elim
  | some o =>
    rw [q] at A
    dsimp only at A
    cases o with
    | none => exact A.elim
    | some d =>
      cases d with
      | loc n =>
        dsimp only at A
        cases q' : S.w[n]? with
        | none => rw [q'] at A; exact A.elim
        | some c =>
          rw [q'] at A
          cases c with
          | lst xs =>
            have A : SRA G W S D (evSs G.F sub ss (ρ.set i (some (.lst xs))) (S.w.set n .dead)) := A
            obtain ⟨v, hv, hd⟩ := m.2 i _ q
            cases hd with
            | @loc a n' hl =>
              have nd : Cell.lst xs ≠ .dead := fun z => nomatch z
              obtain ⟨b, hb, hI, cr⟩ := ok.cell n _ q' nd
              rw [hl] at hb; cases hb
              cases cr with
              | @lst vs _ e1 hs =>
                have st := step_fz (o := .lst vs) q' nd hl hI
                have ok2 := ok_fz ok q' nd hl e1
                have hv2 : σ = σ.set i (some (.ref a)) := by
                  refine (List.ext_getElem? fun j => ?_)
                  by_cases e : i = j
                  · subst e
                    rw [List.getElem?_set_self (List.getElem?_eq_some_iff.mp hv).1]
                    exact hv
                  · rw [List.getElem?_set_ne e]
                refine ⟨S.fz n a (.lst vs), ρ.set i (some (.lst xs)), rfl, ok2, ?_, SRA.step A st⟩
                rw [hv2]
                exact (m.step st).set (.lst (show upd S.I a (.lst vs) a = _ from upd_same) (hs.step st))
          | dct ks vs =>
            obtain ⟨b, hb, hI, cr⟩ := ok.cell n _ q' (fun z => nomatch z)
            cases cr
          | _ => exact A.elim
      | _ => exact A.elim
end
end Ir
namespace Ir
open PySem PySem.Spec PyProof.Rows L2
section
variable {G : Glb} {k : Nat}
theorem PSs.cons {X : Cx} {W : WX} {sub : Nat → Nat → Bool} {s : S} {ss : Ss} {st : Stmt} {sts : List Stmt} (h1 : PS X st (tSr G W (evS G.F sub s))) (h2 : PSs X sts (tSr G W (evSs G.F sub ss))) : PSs X (st :: sts) (tSr G W (evSs G.F sub (.cons s ss))) := by
  refine PSs.imp (pss_cons h1 h2) fun D σ H ⟨S, ρ, hH, ok, m, A⟩ => ?_
  subst hH
  exact ⟨S, ρ, rfl, ok, m, SRA.seq A⟩
mutual
theorem sS (ok : Gok G k) (cl : Gcl G) (sub : Nat → Nat → Bool) : ∀ (ir : S) (X : Cx) (mc : MC) (W : WX) (st : Stmt), GdS G X mc k W → mS mc ir st = true → PS X st (tSr G W (evS G.F sub ir))
  | .asg t e, X, mc, W, st, g, h => by
    cases st with
    | Assign tgs v pos =>
      cases tgs with
      | nil => exact absurd h Bool.false_ne_true
      | cons tg tgs =>
        cases tgs with
        | cons _ _ => exact absurd h Bool.false_ne_true
        | nil =>
          have h : (mE mc e v && mT mc t tg && (plainA mc e tg v || lcA mc tg v || parA mc t e tg v)) = true := h
          simp only [Bool.and_eq_true, Bool.or_eq_true] at h
          obtain ⟨⟨h1, h2⟩, (h3 | h3) | h3⟩ := h
          · exact asg_plain g.gd (sE ok e X mc W v g.gd h1).1 (sT g.gd t tg h2) h1 h2 h3 g.kind
          · exact asg_lc g.gd ok h1 h2 h3
          · exact asg_par g.gd ok h1 h2 h3 g.kind
    | _ => exact absurd h Bool.false_ne_true
  | .aug i o e, X, mc, W, st, g, h => by
    cases st with
    | AugAssign tg op v pos =>
      cases tg with
      | Name x xp =>
        have h : (decide (mc.N[i]? = some x) && stB mc x && augB o op && mE mc e v) = true := h
        simp only [Bool.and_eq_true, decide_eq_true_eq] at h
        obtain ⟨⟨⟨h1, h2⟩, h3⟩, h4⟩ := h
        exact aug_sound g.gd (sE ok e X mc W v g.gd h4).1 h1 h2 h3
      | _ => exact absurd h Bool.false_ne_true
    | _ => exact absurd h Bool.false_ne_true
  | .setix a i e, X, mc, W, st, g, h => by
    cases st with
    | Assign tgs v pos =>
      cases tgs with
      | nil => exact absurd h Bool.false_ne_true
      | cons tg tgs =>
        cases tgs with
        | cons _ _ => exact absurd h Bool.false_ne_true
        | nil =>
          cases tg with
          | Subscript x y xp =>
            have h : (mE mc a x && mE mc i y && mE mc e v && !lcB e) = true := h
            simp only [Bool.and_eq_true, Bool.not_eq_true'] at h
            obtain ⟨⟨⟨h1, h2⟩, h3⟩, h4⟩ := h
            exact set_sound g.gd h4 h3 h2 (sE ok a X mc W x g.gd h1).1 (sE ok i X mc W y g.gd h2).1 (sE ok e X mc W v g.gd h3).1
          | _ => exact absurd h Bool.false_ne_true
    | _ => exact absurd h Bool.false_ne_true
  | .ex e, X, mc, W, st, g, h => by
    cases st with
    | Expr v pos =>
      have h : (mE mc e v && !lcB e) = true := h
      simp only [Bool.and_eq_true, Bool.not_eq_true'] at h
      refine PS.imp (ps_expr (sE ok e X mc W v g.gd h.1).1 (swaps_of h.1 h.2 _ _ _)) fun D σ H ⟨S, ρ, hH, ok, m, A⟩ => ?_
      subst hH
      rw [evS] at A
      exact tG.sr ok m A fun d v1 S1 p1 ok1 m1 hv A1 => A1 σ S1 (.refl S1) ok1 rfl m1
    | _ => exact absurd h Bool.false_ne_true
  | .ret e, X, mc, W, st, g, h => by
    cases st with
    | Return v pos =>
      cases v with
      | none => exact absurd h Bool.false_ne_true
      | some v =>
        refine PS.imp (ps_ret (sE ok e X mc W v g.gd h).1) fun D σ H ⟨S, ρ, hH, ok, m, A⟩ => ?_
        subst hH
        rw [evS] at A
        exact tG.sr ok m A fun d v1 S1 p1 ok1 m1 hv A1 => A1 v1 S1 (.refl S1) ok1 rfl hv
    | _ => exact absurd h Bool.false_ne_true
  | .retN, X, mc, W, st, g, h => by
    cases st with
    | Return v pos =>
      cases v with
      | some _ => exact absurd h Bool.false_ne_true
      | none =>
        refine PS.imp ps_retN fun D σ H ⟨S, ρ, hH, ok, m, A⟩ => ?_
        subst hH
        exact A .non S (.refl S) ok rfl .non
    | _ => exact absurd h Bool.false_ne_true
  | .ite c a b, X, mc, W, st, g, h => by
    cases st with
    | If t p q pos =>
      have h : (mE mc c t && mSs mc a p && mSs mc b q) = true := h
      simp only [Bool.and_eq_true] at h
      exact PS.imp (ps_if (sE ok c X mc W t g.gd h.1.1).2 (sSs ok cl sub a X mc W p g h.1.2) (sSs ok cl sub b X mc W q g h.2)) ite_key
    | _ => exact absurd h Bool.false_ne_true
  | .whl n c b, X, mc, W, st, g, h => by
    cases st with
    | While t p q pos =>
      cases q with
      | cons _ _ => exact absurd h Bool.false_ne_true
      | nil =>
        have h : (mE mc c t && mSs mc b p) = true := h
        simp only [Bool.and_eq_true] at h
        exact PS.imp (ps_while g.po (sE ok c X mc W t g.gd h.1).2 (sSs ok cl sub b X mc W p g h.2)) whl_key
    | _ => exact absurd h Bool.false_ne_true
  | .for_ t it b, X, mc, W, st, g, h => by
    cases st with
    | For tg e p q pos =>
      cases q with
      | cons _ _ => exact absurd h Bool.false_ne_true
      | nil =>
        have h : (mT mc t tg && mIt mc it (tupB tg) e && mSs mc b p) = true := h
        simp only [Bool.and_eq_true] at h
        exact PS.imp (ps_for g.po g.gd.calm (sIt ok it X mc W tg e g.gd h.1.2) (sT g.gd t tg h.1.1) (sSs ok cl sub b X mc W p g h.2) (fold_it h.1.2 _)) for_key
    | _ => exact absurd h Bool.false_ne_true
  | .rais c, X, mc, W, st, g, h => by
    cases st with
    | Raise e f pos =>
      have hx : ∃ x p1 m j p2 p3, f = none ∧ e = some (.Call (.Name x p1) [.Constant (.str m) j p2] [] p3) ∧ clsB mc x c = true := by
        have h : (match (generalizing := false) f, e with
          | none, some (.Call (.Name x _) [.Constant (.str _) _ _] [] _) => clsB mc x c
          | _, _ => false) = true := h
        split at h
        · exact ⟨_, _, _, _, _, _, rfl, rfl, h⟩
        · exact absurd h Bool.false_ne_true
      obtain ⟨x, p1, m, j, p2, p3, rfl, rfl, hc⟩ := hx
      exact rais_sound g.gd cl hc
    | _ => exact absurd h Bool.false_ne_true
  | .pass, X, mc, W, st, g, h => by
    cases st with
    | Pass pos => exact PS.imp ps_pass fun D σ H ⟨S, ρ, hH, ok, m, A⟩ => by subst hH; exact A σ S (.refl S) ok rfl m
    | _ => exact absurd h Bool.false_ne_true
  | .brk, X, mc, W, st, g, h => by
    cases st with
    | Break pos => exact PS.imp ps_break fun D σ H ⟨S, ρ, hH, ok, m, A⟩ => by subst hH; exact A σ S (.refl S) ok rfl m
    | _ => exact absurd h Bool.false_ne_true
  | .cont, X, mc, W, st, g, h => by
    cases st with
    | Continue pos => exact PS.imp ps_continue fun D σ H ⟨S, ρ, hH, ok, m, A⟩ => by subst hH; exact A σ S (.refl S) ok rfl m
    | _ => exact absurd h Bool.false_ne_true
  | .fz _, X, mc, W, st, g, h => absurd h Bool.false_ne_true
  | .tr _ _ _ _, X, mc, W, st, g, h => absurd h Bool.false_ne_true
theorem sSs (ok : Gok G k) (cl : Gcl G) (sub : Nat → Nat → Bool) : ∀ (irs : Ss) (X : Cx) (mc : MC) (W : WX) (sts : List Stmt), GdS G X mc k W → mSs mc irs sts = true → PSs X sts (tSr G W (evSs G.F sub irs))
  | .nil, X, mc, W, sts, g, h => by
    cases sts with
    | nil => exact PSs.imp pss_nil fun D σ H ⟨S, ρ, hH, ok, m, A⟩ => by subst hH; exact A σ S (.refl S) ok rfl m
    | cons _ _ => exact absurd h Bool.false_ne_true
  | .cons s ss, X, mc, W, sts, g, h => by
    by_cases q : ∃ i, s = .fz i
    · obtain ⟨i, rfl⟩ := q
      exact PSs.imp (sSs ok cl sub ss X mc W sts g h) fz_key
    · have h : ∃ st l, sts = st :: l ∧ mS mc s st = true ∧ mSs mc ss l = true := by
        cases sts with
        | nil => cases s <;> first | exact absurd h Bool.false_ne_true | exact absurd ⟨_, rfl⟩ q
        | cons st l =>
          refine ⟨st, l, rfl, ?_⟩
          have h : (mS mc s st && mSs mc ss l) = true := by
            cases s <;> first | exact h | exact absurd ⟨_, rfl⟩ q
          exact Bool.and_eq_true_iff.mp h
      obtain ⟨st, l, rfl, h1, h2⟩ := h
      exact PSs.cons (sS ok cl sub s X mc W st g h1) (sSs ok cl sub ss X mc W l g h2)
end
end
end Ir
/-! # the defs, by levels of calls -/
namespace Ir
open PySem PySem.Spec PyProof.Rows L2

/-- what is fixed -/
structure Pg where
  P : Program
  w : World
  K : PySem.W.Frag
  mg : Str → Option Value
  base : Heap
  fa : Nat → Addr
  ca : Nat → Addr
  tab : List (Str × GK)
  Pr : List FDef
  sub : Nat → Nat → Bool
def Pg.G (p : Pg) (k : Nat) : Glb := { P := p.P, w := p.w, K := p.K, mg := p.mg, base := p.base, F := run p.Pr p.sub k, fa := p.fa, ca := p.ca, tab := p.tab }
/-- a def of the text and its IR -/
structure DefOk (p : Pg) (f : Nat) (d : FDef) (x qual : Str) (params : Arguments) (body : List Stmt) (scope : Scope) (N ps : List Str) (fd : FuncData) : Prop where
  fun_ : FunD p.K x qual params body scope [] [] (p.fa f) fd
  binds : Binds p.K fd ps []
  sc : FnScope N ps scope
  np : d.np = ps.length
  ns : d.ns = N.length
  ok : mSs { sc := scope, N := N, tab := p.tab, fn := fun _ => true } d.body body = true
def DefsOk (p : Pg) : Prop := ∀ (f : Nat) (d : FDef), p.Pr[f]? = some d → ∃ x qual params body scope N ps fd, DefOk p f d x qual params body scope N ps fd
/-- the names of the table -/
structure TabOk (p : Pg) : Prop where
  fns : ∀ x f, p.tab.lookup x = some (.fn f) → p.mg x = some (.ref (p.fa f)) ∧ f < p.Pr.length
  csts : ∀ x d, p.tab.lookup x = some (.cst d) → ∃ u v, p.mg x = some u ∧ RelV v u ∧ ∀ I L, Den p.K I L v d
  frees : ∀ x, p.tab.lookup x = some .free → p.mg x = none
  cls : Gcl (p.G 0)
theorem start_get {n : Nat} {ds : List Ir.D} {i : Nat} {d : Ir.D} (h : (Ir.start n ds)[i]? = some (some d)) : ds[i]? = some d := by
  unfold Ir.start at h
  by_cases hi : i < ds.length
  · rw [List.getElem?_append_left (by simpa using hi), List.getElem?_map] at h
    cases q : ds[i]? with
    | none => rw [q] at h; cases h
    | some a => rw [q] at h; cases h; rfl
  · rw [List.getElem?_append_right (by simpa using hi), List.getElem?_replicate] at h
    split at h <;> cases h
theorem start_at {N : List Str} {vs : List V} {i : Nat} {v : V} (h : vs[i]? = some v) : (L2.start N vs)[i]? = some (some v) := by
  unfold L2.start
  have hi : i < vs.length := (List.getElem?_eq_some_iff.mp h).1
  rw [List.getElem?_append_left (by simpa using hi), List.getElem?_map, h]
  rfl
theorem Mt.start {G : Glb} {S : Sit} {N : List Str} {n : Nat} {vs : List V} {ds : List Ir.D} (hn : n = N.length) (h : dna G S vs ds) : Mt G S (Ir.start n ds) (L2.start N vs) := by
  have hl : vs.length = ds.length := DenA.length h
  refine ⟨?_, fun i d hi => ?_⟩
  · unfold Ir.start L2.start
    rw [List.length_append, List.length_append, List.length_map, List.length_map, List.length_replicate, List.length_replicate, hn, hl]
  · obtain ⟨v, h1, h2⟩ := DenA.get h (start_get hi)
    exact ⟨v, start_at h1, h2⟩
theorem TabOk.clsk {p : Pg} (h : TabOk p) (k : Nat) : Gcl (p.G k) := fun x c q => let o := h.cls x c q; ⟨o.g, o.keep, o.r1, o.r2, o.ex⟩
theorem def_step {p : Pg} (ht : TabOk p) {k : Nat} (ih : Gok (p.G k) k) {f : Nat} {d : FDef} (hget : p.Pr[f]? = some d) {x' qual : Str} {params : Arguments} {body : List Stmt} {scope : Scope} {N ps : List Str} {fd : FuncData} (ok : DefOk p f d x' qual params body scope N ps fd) :
    FnOk p.P p.w p.K p.mg p.base (L2.CX p.P p.w) (k + 1) (p.fa f) fd ps (spF (p.G (k + 1)) f) := by
  have hrun : ∀ ds w, (p.G (k + 1)).F f ds w = if ds.length = d.np then (evSs (p.G k).F p.sub d.body (Ir.start d.ns ds) w).res else .stk := by
    intro ds w
    show run p.Pr p.sub (k + 1) f ds w = _
    rw [run, hget]
    rfl
  refine FunD.ok ok.fun_ ok.sc (fun vs H Q E hs => ?_) fun cdv A outer s H vs Q E hr hs => ?_
  · obtain ⟨S, ds, _, _, hv, h⟩ := hs
    rw [hrun] at h
    by_cases q : ds.length = d.np
    · rw [DenA.length hv, q, ok.np]
    · rw [if_neg q] at h; exact h.elim
  · obtain ⟨S, ds, hH, okS, hv, h⟩ := hs
    subst hH
    rw [hrun] at h
    by_cases q : ds.length = d.np
    · rw [if_pos q] at h
      have gd : GdS (p.G k) (cxOf (L2.CX p.P p.w) p.P p.w p.K p.mg p.base N qual scope (p.fa f) cdv A outer s S.H E) { sc := scope, N := N, tab := p.tab, fn := fun _ => true } k (fun cls d _ H => E cls d H) :=
        { gd := { prog := rfl, w := rfl, K := rfl, mg := rfl, base := rfl, calm := rfl, room := hr, N := rfl, nd := ok.sc.nd, sc := rfl, fn := fun _ h => h, takes := takes_of rfl rfl rfl rfl, tab := rfl }
          po := passes_of rfl
          kind := ok.sc.kind }
      refine ⟨_, sSs ih (ht.clsk k) p.sub d.body _ _ _ body gd ok.ok, S, Ir.start d.ns ds, rfl, okS, Mt.start ok.ns hv, ?_⟩
      revert h
      cases evSs (p.G k).F p.sub d.body (Ir.start d.ns ds) S.w with
      | nx ρ w => exact fun h σ' S' p1 ok1 hw _ => h .non S' p1 ok1 hw .non
      | rt d w => exact fun h v S' p1 ok1 hw hd => h v S' p1 ok1 hw hd
      | bk ρ w => exact fun h => h.elim
      | ct ρ w => exact fun h => h.elim
      | ex c ρ w => exact fun h σ' S' p1 ok1 hw _ => h S' p1 ok1 hw
      | stk => exact fun h => h.elim
    · rw [if_neg q] at h; exact h.elim
theorem defs_ok {p : Pg} (hd : DefsOk p) (ht : TabOk p) : ∀ k, Gok (p.G k) k
  | 0 => by
    refine ⟨fun x f h => ?_, ht.csts, ht.frees⟩
    obtain ⟨h1, h2⟩ := ht.fns x f h
    obtain ⟨x', qual, params, body, scope, N, ps, fd, ok⟩ := hd f _ (List.getElem?_eq_getElem h2)
    refine ⟨h1, ok.fun_.kp, fd, ps, ok.binds, ⟨fun vs H Q E hs => ?_, fun A outer s H args us vs Q E _ _ _ _ hs => ?_⟩⟩
    · obtain ⟨S, ds, _, _, _, h⟩ := hs
      exact h.elim
    · obtain ⟨S, ds, _, _, _, h⟩ := hs
      exact h.elim
  | k + 1 => by
    have ih := defs_ok hd ht k
    refine ⟨fun x f h => ?_, ht.csts, ht.frees⟩
    obtain ⟨h1, h2⟩ := ht.fns x f h
    have hget : p.Pr[f]? = some p.Pr[f] := List.getElem?_eq_getElem h2
    obtain ⟨x', qual, params, body, scope, N, ps, fd, ok⟩ := hd f _ hget
    exact ⟨h1, ok.fun_.kp, fd, ps, ok.binds, def_step ht ih hget ok⟩
end Ir
/-! # the head: what the top leaves, by names -/
namespace Ir
open PySem PySem.Spec PyProof.Rows L2
def dvOf : D → He.Dv
  | .bl b => .bl b
  | .int i => .int i
  | .str x => .str x
  | _ => .non
def flatC : D → Bool
  | .non => true
  | .bl _ => true
  | .int _ => true
  | .str x => PyData.strOk x
  | _ => false
theorem den_dv {K : PySem.W.Frag} {I : Hp} {L : List Addr} : ∀ {ds : List D}, ds.all flatC = true → DenA K I L ((ds.map dvOf).map (He.Dv.v K)) ds
  | [], _ => .nil
  | d :: ds, h => by
    rw [List.all_cons, Bool.and_eq_true] at h
    refine .cons ?_ (den_dv h.2)
    cases d with
    | non => exact .non
    | bl b => exact .bl b
    | int i => exact .int i
    | str x => exact .str x h.1
    | _ => exact absurd h.1 Bool.false_ne_true
/-- a def: where it stands, its slots' names, its parameters' -/
structure DefI where
  x : Str
  st : Stmt
  N : List Str
  ps : List Str
def DefI.d (i : DefI) : He.DefD := ⟨(i.x, none), i.x, i.x, defArgs i.st, defBody i.st, defScope i.st, [], []⟩
structure Txt where
  tab : List (Str × GK)
  cn : List Str
  ds : List DefI
  Pr : List FDef
  sub : Nat → Nat → Bool
def Txt.nm (T : Txt) (f : Nat) : Str := ((T.ds[f]?).map (·.x)).getD ""
def Txt.cnm (T : Txt) (c : Nat) : Str := (T.cn[c]?).getD ""
def cstB (K : PySem.W.Frag) (x : Str) : D → Bool
  | .int i => (He.Fa.int x i).ok K
  | .str z => (He.Fa.str x z).ok K && PyData.strOk z
  | .tup ds => (He.Fa.glo x).ok K && He.tupB K x (ds.map dvOf) && ds.all flatC
  | _ => false
def Txt.entB (T : Txt) (K : PySem.W.Frag) (e : Str × GK) : Bool := match e.2 with
  | .fn f => (He.Fa.glo e.1).ok K && decide (T.nm f = e.1)
  | .cst d => cstB K e.1 d
  | .cls c => (He.Fa.glo e.1).ok K && (He.Fa.exc e.1).ok K && decide (T.cnm c = e.1)
  | .free => (He.Fa.free e.1).ok K
def Txt.obsT (T : Txt) (K : PySem.W.Frag) : He.AlD := (T.tab.all (T.entB K) && T.ds.all fun i => i.d.ok K, T.ds.map fun i => He.fnW K i.d.at_)
def Txt.valT (T : Txt) : He.AlD := (true, T.ds.map fun i => i.d.val)
def Txt.Says (T : Txt) (K : PySem.W.Frag) : Prop := T.obsT K = T.valT
def Txt.obsG (T : Txt) (n : Nat) (g : Addr → Option Obj) : He.AlD := T.obsT (He.frG g (He.asD g n))
def Txt.hook (T : Txt) (n : Nat) : PySem.W.Hook where
  α := He.AlD
  obs := fun s => T.obsG n s.heap.get?
  val := fun _ => T.valT
  says := fun _ h => ∃ K : PySem.W.Frag, K.In h ∧ T.Says K
  of := fun _ _ e => ⟨_, He.frG_in, e⟩
  keeps := fun _ _ _ ⟨K, hK, c⟩ k => ⟨K, PySem.W.Frag.In.keeps hK k, c⟩
theorem Txt.obsG_eq (T : Txt) {n : Nat} {g : Addr → Option Obj} {s : Shared} (h : ∀ a, g a = s.heap.get? a) : T.obsG n g = (T.hook n).obs s := by
  have e : g = s.heap.get? := funext h
  rw [e] <;> rfl
section
variable {T : Txt} {K : PySem.W.Frag}
theorem Txt.Says.ent (c : T.Says K) {x : Str} {g : GK} (h : T.tab.lookup x = some g) : T.entB K (x, g) = true := by
  have c1 := (Bool.and_eq_true_iff.mp (show (T.tab.all (T.entB K) && T.ds.all fun i => i.d.ok K) = true from congrArg (fun z : He.AlD => z.1) c)).1
  exact List.all_eq_true.mp c1 _ (PySem.mem_of_lookup h)
theorem Txt.Says.def_ (c : T.Says K) (i : Nat) {d : DefI} (h : T.ds[i]? = some d) : ∃ fd, FunD K d.x d.x (defArgs d.st) (defBody d.st) (defScope d.st) [] [] (He.ga K d.x) fd := by
  have c2 := (Bool.and_eq_true_iff.mp (show (T.tab.all (T.entB K) && T.ds.all fun i => i.d.ok K) = true from congrArg (fun z : He.AlD => z.1) c)).2
  have e : T.ds.map (fun d => He.fnW K d.d.at_) = T.ds.map fun i => i.d.val := congrArg (fun z : He.AlD => z.2) c
  have e2 : (T.ds.map (fun d => He.fnW K d.d.at_))[i]? = (T.ds.map fun i => i.d.val)[i]? := by rw [e]
  rw [List.getElem?_map, List.getElem?_map, h] at e2
  exact He.DefD.funD (d := d.d) (Option.some.inj e2) (List.all_eq_true.mp c2 _ (List.mem_of_getElem? h))
end
def Txt.pg (T : Txt) (P : Program) (w : World) (K : PySem.W.Frag) (mg : Str → Option Value) (base : Heap) : Pg where
  P := P
  w := w
  K := K
  mg := mg
  base := base
  fa := fun f => He.ga K (T.nm f)
  ca := fun c => He.ga K (T.cnm c)
  tab := T.tab
  Pr := T.Pr
  sub := T.sub
def BindsD (i : DefI) : Prop := ∀ (kV doc pm : Value) (an : Option Addr) (cdv ct : Value) (us : List Value), us.length = i.ps.length → bindArgs (PySem.W.fnOf i.x i.x (defArgs i.st) (defBody i.st) (defScope i.st) .none kV doc pm an cdv ct) ⟨us, []⟩ = pure (i.ps.zip us)
def scB (sc : Scope) (N ps : List Str) : Bool :=
  (sc.kind == .function) && !sc.isCoroutine && !sc.isGenerator && decide N.Nodup && decide (N.take ps.length = ps) && ps.all (fun x => sc.names.lookup x == some .local || sc.names.lookup x == some .cell) && sc.names.all (fun y => !(y.2 == .free))
theorem scB_ok {sc : Scope} {N ps : List Str} (h : scB sc N ps = true) : FnScope N ps sc := by
  unfold scB at h
  simp only [Bool.and_eq_true, Bool.not_eq_true', decide_eq_true_eq, List.all_eq_true, Bool.or_eq_true, beq_iff_eq, beq_eq_false_iff_ne] at h
  obtain ⟨⟨⟨⟨⟨⟨h1, h2⟩, h3⟩, h4⟩, h5⟩, h6⟩, h7⟩ := h
  exact ⟨h1, h2, h3, h4, h5, h6, h7⟩
structure DefB (T : Txt) (i : DefI) (d : FDef) : Prop where
  b : BindsD i
  sc : scB (defScope i.st) i.N i.ps = true
  n : (d.np == i.ps.length && d.ns == i.N.length) = true
  ok : mSs { sc := defScope i.st, N := i.N, tab := T.tab, fn := fun _ => true } d.body (defBody i.st) = true
/-- the defs, one by one -/
inductive DefsB (T : Txt) : List DefI → List FDef → Prop where
  | nil : DefsB T [] []
  | cons {i : DefI} {d : FDef} {is : List DefI} {ds : List FDef} : DefB T i d → DefsB T is ds → DefsB T (i :: is) (d :: ds)
theorem DefsB.len {T : Txt} : ∀ {is : List DefI} {ds : List FDef}, DefsB T is ds → is.length = ds.length
  | _, _, .nil => rfl
  | _, _, .cons _ h => congrArg Nat.succ h.len
theorem DefsB.get {T : Txt} : ∀ {is : List DefI} {ds : List FDef}, DefsB T is ds → ∀ {f : Nat} {d : FDef}, ds[f]? = some d → ∃ i, is[f]? = some i ∧ DefB T i d
  | _, _, .nil, f, d, h => by simp at h
  | _, _, .cons (i := i) b _, 0, d, h => by
    simp only [List.getElem?_cons_zero, Option.some.injEq] at h
    subst h
    exact ⟨i, rfl, b⟩
  | _, _, .cons _ hs, f + 1, d, h => by
    simp only [List.getElem?_cons_succ] at h
    obtain ⟨i, h1, h2⟩ := hs.get h
    exact ⟨i, by simpa using h1, h2⟩
section
variable {T : Txt} {P : Program} {w : World} {K : PySem.W.Frag} {h base : Heap} {mg : Str → Option Value}
theorem def_ok (hB : DefsB T T.ds T.Pr) (c : T.Says K) {f : Nat} {d : FDef} (hf : T.Pr[f]? = some d) {i : DefI} (hi : T.ds[f]? = some i) {fd : FuncData} (F : FunD K i.x i.x (defArgs i.st) (defBody i.st) (defScope i.st) [] [] (He.ga K i.x) fd) :
    DefOk (T.pg P w K mg base) f d i.x i.x (defArgs i.st) (defBody i.st) (defScope i.st) i.N i.ps fd := by
  obtain ⟨i', hi', b⟩ := hB.get hf
  rw [hi] at hi'
  cases hi'
  have e : T.nm f = i.x := by unfold Txt.nm; rw [hi]; rfl
  have n := b.n
  simp only [Bool.and_eq_true, beq_iff_eq] at n
  refine ⟨?_, FunD.bindsN F b.b, scB_ok b.sc, n.1, n.2, b.ok⟩
  show FunD K i.x i.x _ _ _ [] [] (He.ga K (T.nm f)) fd
  rw [e]
  exact F
theorem defs_of (hB : DefsB T T.ds T.Pr) (c : T.Says K) : DefsOk (T.pg P w K mg base) := fun f d hf => by
  obtain ⟨i, hi, _⟩ := hB.get (show T.Pr[f]? = some d from hf)
  obtain ⟨fd, F⟩ := c.def_ f hi
  exact ⟨_, _, _, _, _, _, _, _, def_ok hB c hf hi F⟩
theorem tab_of (c : T.Says K) (X : K.In h) (G : h.Ns mainGlobals mg) (hl : T.tab.all (fun e => match e.2 with
    | .fn f => decide (f < T.Pr.length)
    | _ => true) = true) : TabOk (T.pg P w K mg base) where
  fns := fun x f q => by
    have q : T.tab.lookup x = some (.fn f) := q
    have e : ((He.Fa.glo x).ok K && decide (T.nm f = x)) = true := c.ent q
    obtain ⟨e1, e2⟩ := Bool.and_eq_true_iff.mp e
    have e2 := of_decide_eq_true e2
    refine ⟨?_, ?_⟩
    · show mg x = some (.ref (He.ga K (T.nm f)))
      rw [e2]
      exact He.glo_ok X G e1
    · have := List.all_eq_true.mp hl _ (PySem.mem_of_lookup q)
      exact of_decide_eq_true this
  csts := fun x d q => by
    have q : T.tab.lookup x = some (.cst d) := q
    have e : cstB K x d = true := c.ent q
    cases d with
    | int i =>
      obtain ⟨t, ht⟩ := He.int_ok X G (show (He.Fa.int x i).ok K = true from e)
      exact ⟨_, .int i, ht, ⟨t, rfl⟩, fun I L => .int i⟩
    | str z =>
      have e : ((He.Fa.str x z).ok K && PyData.strOk z) = true := e
      obtain ⟨e1, e2⟩ := Bool.and_eq_true_iff.mp e
      obtain ⟨t, ht⟩ := He.str_ok X G e1
      exact ⟨_, .str z, ht, ⟨t, rfl⟩, fun I L => .str z e2⟩
    | tup ds =>
      have e : ((He.Fa.glo x).ok K && He.tupB K x (ds.map dvOf) && ds.all flatC) = true := e
      simp only [Bool.and_eq_true] at e
      exact ⟨_, .ref (He.ga K x), He.glo_ok X G e.1.1, rfl, fun I L => .tup (He.tupB_ok e.1.2 I) (den_dv e.2)⟩
    | _ => exact absurd e Bool.false_ne_true
  frees := fun x q => by
    have q : T.tab.lookup x = some .free := q
    exact He.free_ok X G (show (He.Fa.free x).ok K = true from c.ent q)
  cls := fun x cc q => by
    have q : T.tab.lookup x = some (.cls cc) := q
    have e : ((He.Fa.glo x).ok K && (He.Fa.exc x).ok K && decide (T.cnm cc = x)) = true := c.ent q
    simp only [Bool.and_eq_true, decide_eq_true_eq] at e
    obtain ⟨⟨e1, e2⟩, e3⟩ := e
    obtain ⟨x1, x2, x3, x4⟩ := He.exc_ok e2
    have z : ((T.pg P w K mg base).G 0).ca cc = He.ga K x := by
      show He.ga K (T.cnm cc) = _
      rw [e3]
    refine ⟨?_, ?_, ?_, ?_, ?_⟩
    · rw [z]; exact He.glo_ok X G e1
    · rw [z]; exact x2
    · rw [z]; exact x3
    · rw [z]; exact x4
    · rw [z]; exact ⟨_, _, _, _, PySem.F.excBase_ValueError, x1⟩
def CXA : CXT := fun outer H s E u s' => ∃ (P : Program) (w : World), L2.CX P w outer H s E u s'
theorem cx_none {H : Hp} {s : Shared} {e : Value} {s' : Shared} (h : CXA [] H s (fun _ _ _ => False) e s') : False := by
  obtain ⟨P, w, a, B, H', cls, d, _, _, _, _, _, _, _, f⟩ := h
  exact f
theorem fn_cxa {P : Program} {w : World} {K : PySem.W.Frag} {mg : Str → Option Value} {base : Heap} {k : Nat} {f : Addr} {fd : FuncData} {ps : List Str} {sp : Sp} (F : FnOk P w K mg base (L2.CX P w) k f fd ps sp) : FnOk P w K mg base CXA k f fd ps sp :=
  ⟨F.len, fun A outer s H args us vs Q E hr he hb hv hs => codeAny_mono (F.run A outer s H args us vs Q E hr he hb hv hs) fun r s' h => by
    cases r with
    | error e => exact ⟨P, w, h⟩
    | ok fl => cases fl <;> exact h⟩
/-- the law, from the evaluator's answer -/
theorem law_of (hB : DefsB T T.ds T.Pr) (c : T.Says K) (X : K.In h) (G : h.Ns mainGlobals mg) (hl : T.tab.all (fun e => match e.2 with
    | .fn f => decide (f < T.Pr.length)
    | _ => true) = true) {f k n : Nat} {i : DefI} {x : Str} (hi : T.ds[f]? = some i) (hx : i.ps = [x]) {fa : Addr} (hfa : mg i.x = some (.ref fa)) (ht : T.tab.lookup i.x = some (.fn f))
    (law : ∀ ns : List Int, ns.length ≤ n → ∃ w', run T.Pr T.sub (k + 1) f [.scr ns] [] = .ok (.bl true) w') :
    ∃ (fd : FuncData) (sp : Sp), (∀ (s : Shared) (u : Value), BindsTo s fd ⟨[u], []⟩ [(x, u)]) ∧
      (∀ (H : Hp) (a : Addr) (ns : List Int), ns.length ≤ n → Only H → SqL K H a (ns.map V.int) → sp [.ref a] H (fun v _ => v = .bl true) fun _ _ _ => False) ∧
      ∀ base : Heap, K.In base → base.Ns mainGlobals mg → FnOk P w K mg base CXA (k + 1) fa fd [x] sp := by
  obtain ⟨fd, F⟩ := c.def_ f hi
  have tk : ∀ base, TabOk (T.pg P w K mg base) := fun base => tab_of c X G hl
  have hlt : f < T.Pr.length := ((tk h).fns _ f ht).2
  have hget : T.Pr[f]? = some T.Pr[f] := List.getElem?_eq_getElem hlt
  obtain ⟨i', hi', b⟩ := hB.get hget
  rw [hi] at hi'
  cases hi'
  have efa : fa = He.ga K (T.nm f) := by
    have q := (tk h).fns _ f ht
    have e := hfa.symm.trans q.1
    exact Value.ref.inj (Option.some.inj e)
  refine ⟨fd, spF ((T.pg P w K mg h).G (k + 1)) f, fun s u => ?_, fun H a ns hn hO hS => ?_, fun base _ _ => ?_⟩
  · have z := FunD.bindsA F b.b s [u] (by rw [hx]; rfl)
    rw [hx] at z
    exact z
  · obtain ⟨w', hw⟩ := law ns hn
    refine ⟨⟨H, H, [], []⟩, [.scr ns], rfl, ⟨Same.refl _, rfl, fun m cc e => by simp at e, fun p q b c1 c2 e => by simp at e⟩, .cons (.scr hS) .nil, ?_⟩
    show (match run T.Pr T.sub (k + 1) f [.scr ns] [] with
      | .ok d w => _
      | .exc c w => _
      | .stk => False)
    rw [hw]
    intro v S' _ _ _ hd
    exact den_bl hd
  · have st := def_step (tk base) (defs_ok (defs_of hB c) (tk base) k) hget (def_ok hB c hget hi F)
    rw [hx] at st
    rw [efa]
    exact fn_cxa st
end
end Ir
/-! # walking the evaluator, by rewriting -/
namespace Ir
open PySem
section
variable {F : Nat → List D → Wd → Res D} {sub : Nat → Nat → Bool} {ρ : Env} {w : Wd} {α β : Type}
def itS (d : D) (a b : SR) : SR := match truth d with
  | some true => a
  | some false => b
  | none => .stk
def itE (d : D) (a b : Res D) : Res D := match truth d with
  | some true => a
  | some false => b
  | none => .stk
@[simp] theorem itS_bl (b : Bool) (x y : SR) : itS (.bl b) x y = if b = true then x else y := by cases b <;> rfl
@[simp] theorem itE_bl (b : Bool) (x y : Res D) : itE (.bl b) x y = if b = true then x else y := by cases b <;> rfl
def asgK (t : Tg) (d : D) (ρ : Env) (w : Wd) : SR := match bindT t d ρ with
  | some ρ' => .nx ρ' w
  | none => .stk
def bds (ts : Tgs) (ds : List D) (o : Option Env) : Option Env := o.bind (bindTs ts ds)
@[simp] theorem asgK_nm (i : Nat) (d : D) (ρ : Env) (w : Wd) : asgK (.nm i) d ρ w = if i < ρ.length then .nx (ρ.set i (some d)) w else .stk := by
  unfold asgK bindT; split <;> rename_i h <;> split at h <;> simp_all
@[simp] theorem bindT_nm (i : Nat) (d : D) (ρ : Env) : bindT (.nm i) d ρ = if i < ρ.length then some (ρ.set i (some d)) else none := rfl
@[simp] theorem bindT_tup (ts : Tgs) (ds : List D) (ρ : Env) : bindT (.tup ts) (.tup ds) ρ = bindTs ts ds ρ := rfl
@[simp] theorem bindTs_nil (ρ : Env) : bindTs .nil [] ρ = some ρ := rfl
@[simp] theorem bindTs_cons (t : Tg) (ts : Tgs) (d : D) (ds : List D) (ρ : Env) : bindTs (.cons t ts) (d :: ds) ρ = bds ts ds (bindT t d ρ) := by
  rw [bindTs, bds]; cases bindT t d ρ <;> rfl
@[simp] theorem bds_some (ts : Tgs) (ds : List D) (ρ : Env) : bds ts ds (some ρ) = bindTs ts ds ρ := rfl
def asgO (o : Option Env) (w : Wd) : SR := match o with
  | some ρ' => .nx ρ' w
  | none => .stk
@[simp] theorem asgO_some (ρ : Env) (w : Wd) : asgO (some ρ) w = .nx ρ w := rfl
@[simp] theorem asgK_tup (ts : Tgs) (ds : List D) (ρ : Env) (w : Wd) : asgK (.tup ts) (.tup ds) ρ w = asgO (bindTs ts ds ρ) w := rfl
@[simp] theorem evSs_nil : evSs F sub .nil ρ w = .nx ρ w := rfl
@[simp] theorem evSs_cons (s : S) (ss : Ss) : evSs F sub (.cons s ss) ρ w = (evS F sub s ρ w).seq fun ρ w => evSs F sub ss ρ w := rfl
@[simp] theorem evS_asg (t : Tg) (e : E) : evS F sub (.asg t e) ρ w = (evE F e ρ w).sr ρ fun d w => asgK t d ρ w := rfl
@[simp] theorem evS_ret (e : E) : evS F sub (.ret e) ρ w = (evE F e ρ w).sr ρ fun d w => .rt d w := rfl
@[simp] theorem evS_ex (e : E) : evS F sub (.ex e) ρ w = (evE F e ρ w).sr ρ fun _ w => .nx ρ w := rfl
@[simp] theorem evS_ite (c : E) (a b : Ss) : evS F sub (.ite c a b) ρ w = (evE F c ρ w).sr ρ fun x w => itS x (evSs F sub a ρ w) (evSs F sub b ρ w) := rfl
@[simp] theorem evS_for (t : Tg) (it : It) (b : Ss) : evS F sub (.for_ t it b) ρ w = (evIt F it ρ w).sr ρ fun ds w => forL t (evSs F sub b) ds ρ w := rfl
@[simp] theorem evS_rais (c : Nat) : evS F sub (.rais c) ρ w = .ex c ρ w := rfl
@[simp] theorem evS_fz (i : Nat) : evS F sub (.fz i) ρ w = fzD i ρ w := rfl
@[simp] theorem evS_whl (n : Nat) (c : E) (b : Ss) : evS F sub (.whl n c b) ρ w = whlL (evE F c) (evSs F sub b) n ρ w := rfl
def augK (i : Nat) (o : BOp) (ρ : Env) (r : Res D) (x : Option D) : SR := match x with
  | some x => r.sr ρ fun y w => (augD o x y w).sr ρ fun z w => .nx (ρ.set i (some z)) w
  | none => .stk
@[simp] theorem augK_some (i : Nat) (o : BOp) (ρ : Env) (r : Res D) (x : D) : augK i o ρ r (some x) = r.sr ρ fun y w => (augD o x y w).sr ρ fun z w => .nx (ρ.set i (some z)) w := rfl
@[simp] theorem evS_aug (i : Nat) (o : BOp) (e : E) : evS F sub (.aug i o e) ρ w = augK i o ρ (evE F e ρ w) (lk ρ i) := by
  rw [evS]; cases lk ρ i <;> rfl
@[simp] theorem aug_add (i j : Int) : augD .add (.int i) (.int j) w = .ok (.int (i + j)) w := rfl
@[simp] theorem aug_sub (i j : Int) : augD .sub (.int i) (.int j) w = .ok (.int (i - j)) w := rfl
@[simp] theorem evE_var (i : Nat) : evE F (.var i) ρ w = .of (lk ρ i) w := rfl
@[simp] theorem evE_gl (x : Str) (d : D) : evE F (.gl x d) ρ w = .ok d w := rfl
@[simp] theorem evE_con (d : D) : evE F (.con d) ρ w = .ok d w := rfl
@[simp] theorem evE_tup (es : Es) : evE F (.tup es) ρ w = (evEs F es ρ w).bind fun ds w => .ok (.tup ds) w := rfl
@[simp] theorem evE_lst (es : Es) : evE F (.lst es) ρ w = (evEs F es ρ w).bind fun ds w => .ok (.lst ds) w := rfl
@[simp] theorem evE_cel (es : Es) : evE F (.cel es) ρ w = (evEs F es ρ w).bind fun ds w => .ok (.loc w.length) (w ++ [.lst ds]) := rfl
@[simp] theorem evE_bin (o : BOp) (a b : E) : evE F (.bin o a b) ρ w = (evE F a ρ w).bind fun x w => (evE F b ρ w).bind fun y w => .of (bin o x y w) w := rfl
def negK (x : D) (w : Wd) : Res D := match x with
  | .int i => .ok (.int (-i)) w
  | _ => .stk
@[simp] theorem negK_int (i : Int) : negK (.int i) w = .ok (.int (-i)) w := rfl
@[simp] theorem evE_neg (a : E) : evE F (.neg a) ρ w = (evE F a ρ w).bind fun x w => negK x w := rfl
@[simp] theorem evE_nt (a : E) : evE F (.nt a) ρ w = (evE F a ρ w).bind fun x w => .of ((truth x).map fun b => .bl (!b)) w := rfl
@[simp] theorem evE_and (a : E) (es : Es) : evE F (.and_ a es) ρ w = (evE F a ρ w).bind fun x w => itE x (evAnd F es ρ w) (.ok (.bl false) w) := rfl
@[simp] theorem evE_or (a : E) (es : Es) : evE F (.or_ a es) ρ w = (evE F a ρ w).bind fun x w => itE x (.ok (.bl true) w) (evOr F es ρ w) := rfl
@[simp] theorem evE_ite (c a b : E) : evE F (.ite c a b) ρ w = (evE F c ρ w).bind fun x w => itE x (evE F a ρ w) (evE F b ρ w) := rfl
@[simp] theorem evE_cmp (o : COp) (a b : E) : evE F (.cmp o a b) ρ w = (evE F a ρ w).bind fun x w => (evE F b ρ w).bind fun y w => .of ((copD o x y w).map .bl) w := rfl
def chK (o : Option Bool) (r : Res D) (w : Wd) : Res D := match o with
  | some true => r
  | some false => .ok (.bl false) w
  | none => .stk
@[simp] theorem chK_some (b : Bool) (r : Res D) : chK (some b) r w = if b = true then r else .ok (.bl false) w := by cases b <;> rfl
@[simp] theorem evE_chain (o p : COp) (a b c : E) : evE F (.chain o p a b c) ρ w = (evE F a ρ w).bind fun x w => (evE F b ρ w).bind fun y w => chK (copD o x y w) ((evE F c ρ w).bind fun z w => .of ((copD p y z w).map .bl) w) w := rfl
@[simp] theorem evE_ix (a b : E) : evE F (.ix a b) ρ w = (evE F a ρ w).bind fun x w => (evE F b ρ w).bind fun i w => .of (ixD x i w) w := rfl
@[simp] theorem evE_rev (a : E) : evE F (.rev a) ρ w = (evE F a ρ w).bind fun x w => .of (revD x w) w := rfl
@[simp] theorem evE_call (f : Nat) (es : Es) : evE F (.call f es) ρ w = (evEs F es ρ w).bind fun ds w => F f ds w := rfl
@[simp] theorem evE_prim (p : Prim) (es : Es) : evE F (.prim p es) ρ w = (evEs F es ρ w).bind fun ds w => prim p ds w := rfl
@[simp] theorem evE_isi (t : Ty) (a : E) : evE F (.isi t a) ρ w = (evE F a ρ w).bind fun d w => .of ((isi t d).map .bl) w := rfl
@[simp] theorem evE_lr1 (a : E) : evE F (.lr1 a) ρ w = (evE F a ρ w).bind fun d w => prim (.listR false) [d] w := rfl
@[simp] theorem evE_lr2 (a b : E) : evE F (.lr2 a b) ρ w = (evE F a ρ w).bind fun d w => (evE F b ρ w).bind fun d' w => prim (.listR true) [d, d'] w := rfl
@[simp] theorem evE_lc (cell : Bool) (t : Tg) (it : It) (c elt : E) : evE F (.lc cell t it c elt) ρ w = (evIt F it ρ w).bind fun ds w => ((lcL t ρ (evE F c) (evE F elt) ds [] w).nox).bind fun ys w =>
    if cell = true then .ok (.loc w.length) (w ++ [.lst ys]) else .ok (.lst ys) w := rfl
@[simp] theorem evEs_nil : evEs F .nil ρ w = .ok [] w := rfl
@[simp] theorem evEs_cons (e : E) (es : Es) : evEs F (.cons e es) ρ w = (evE F e ρ w).bind fun d w => (evEs F es ρ w).bind fun ds w => .ok (d :: ds) w := rfl
@[simp] theorem evAnd_nil : evAnd F .nil ρ w = .ok (.bl true) w := rfl
@[simp] theorem evAnd_cons (e : E) (es : Es) : evAnd F (.cons e es) ρ w = (evE F e ρ w).bind fun x w => itE x (evAnd F es ρ w) (.ok (.bl false) w) := rfl
@[simp] theorem evOr_nil : evOr F .nil ρ w = .ok (.bl false) w := rfl
@[simp] theorem evOr_cons (e : E) (es : Es) : evOr F (.cons e es) ρ w = (evE F e ρ w).bind fun x w => itE x (.ok (.bl true) w) (evOr F es ρ w) := rfl
@[simp] theorem evIt_val (e : E) : evIt F (.val e) ρ w = (evE F e ρ w).bind fun d w => .of (itemsD d) w := rfl
@[simp] theorem evIt_rng (es : Es) : evIt F (.rng es) ρ w = (evEs F es ρ w).bind fun ds w => .of (rngItems ds) w := rfl
/-! ites -/
@[simp] theorem bind_ite (c : Prop) [Decidable c] (a b : Res α) (f : α → Wd → Res β) : (if c then a else b).bind f = if c then a.bind f else b.bind f := by split <;> rfl
@[simp] theorem sr_ite (c : Prop) [Decidable c] (a b : Res α) (ρ : Env) (f : α → Wd → SR) : (if c then a else b).sr ρ f = if c then a.sr ρ f else b.sr ρ f := by split <;> rfl
@[simp] theorem seq_ite (c : Prop) [Decidable c] (a b : SR) (f : Env → Wd → SR) : (if c then a else b).seq f = if c then a.seq f else b.seq f := by split <;> rfl
@[simp] theorem turn_ite (c : Prop) [Decidable c] (a b : SR) (f : Env → Wd → SR) : (if c then a else b).turn f = if c then a.turn f else b.turn f := by split <;> rfl
@[simp] theorem res_ite (c : Prop) [Decidable c] (a b : SR) : (if c then a else b).res = if c then a.res else b.res := by split <;> rfl
@[simp] theorem ok_ite_int (c : Prop) [Decidable c] (a b : Int) (w : Wd) : (if c then Res.ok (D.int a) w else .ok (.int b) w) = .ok (.int (if c then a else b)) w := by split <;> rfl
@[simp] theorem ok_ite_bl (c : Prop) [Decidable c] (a b : Bool) (w : Wd) : (if c then Res.ok (D.bl a) w else .ok (.bl b) w) = .ok (.bl (if c then a else b)) w := by split <;> rfl
/-! slots -/
@[simp] theorem lk_zero (o : Option D) (ρ : Env) : lk (o :: ρ) 0 = o := rfl
@[simp] theorem lk_succ (o : Option D) (ρ : Env) (i : Nat) : lk (o :: ρ) (i + 1) = lk ρ i := by simp [lk]
@[simp] theorem lk_1 (a o : Option D) (ρ : Env) : lk (a :: o :: ρ) 1 = o := rfl
@[simp] theorem lk_2 (a b o : Option D) (ρ : Env) : lk (a :: b :: o :: ρ) 2 = o := rfl
@[simp] theorem lk_3 (a b c o : Option D) (ρ : Env) : lk (a :: b :: c :: o :: ρ) 3 = o := rfl
@[simp] theorem lk_4 (a b c d o : Option D) (ρ : Env) : lk (a :: b :: c :: d :: o :: ρ) 4 = o := rfl
@[simp] theorem lk_5 (a b c d e o : Option D) (ρ : Env) : lk (a :: b :: c :: d :: e :: o :: ρ) 5 = o := rfl
@[simp] theorem lk_6 (a b c d e f o : Option D) (ρ : Env) : lk (a :: b :: c :: d :: e :: f :: o :: ρ) 6 = o := rfl
@[simp] theorem lk_7 (a b c d e f g o : Option D) (ρ : Env) : lk (a :: b :: c :: d :: e :: f :: g :: o :: ρ) 7 = o := rfl
@[simp] theorem lk_8 (a b c d e f g h o : Option D) (ρ : Env) : lk (a :: b :: c :: d :: e :: f :: g :: h :: o :: ρ) 8 = o := rfl
@[simp] theorem lk_9 (a b c d e f g h i o : Option D) (ρ : Env) : lk (a :: b :: c :: d :: e :: f :: g :: h :: i :: o :: ρ) 9 = o := rfl
@[simp] theorem lk_10 (a b c d e f g h i j o : Option D) (ρ : Env) : lk (a :: b :: c :: d :: e :: f :: g :: h :: i :: j :: o :: ρ) 10 = o := rfl
@[simp] theorem lk_11 (a b c d e f g h i j k o : Option D) (ρ : Env) : lk (a :: b :: c :: d :: e :: f :: g :: h :: i :: j :: k :: o :: ρ) 11 = o := rfl
@[simp] theorem lk_12 (a b c d e f g h i j k l o : Option D) (ρ : Env) : lk (a :: b :: c :: d :: e :: f :: g :: h :: i :: j :: k :: l :: o :: ρ) 12 = o := rfl
@[simp] theorem lk_13 (a b c d e f g h i j k l m o : Option D) (ρ : Env) : lk (a :: b :: c :: d :: e :: f :: g :: h :: i :: j :: k :: l :: m :: o :: ρ) 13 = o := rfl
@[simp] theorem lk_14 (a b c d e f g h i j k l m n o : Option D) (ρ : Env) : lk (a :: b :: c :: d :: e :: f :: g :: h :: i :: j :: k :: l :: m :: n :: o :: ρ) 14 = o := rfl
@[simp] theorem lk_15 (a b c d e f g h i j k l m n p o : Option D) (ρ : Env) : lk (a :: b :: c :: d :: e :: f :: g :: h :: i :: j :: k :: l :: m :: n :: p :: o :: ρ) 15 = o := rfl
@[simp] theorem lk_16 (a b c d e f g h i j k l m n p q o : Option D) (ρ : Env) : lk (a :: b :: c :: d :: e :: f :: g :: h :: i :: j :: k :: l :: m :: n :: p :: q :: o :: ρ) 16 = o := rfl
@[simp] theorem lk_17 (a b c d e f g h i j k l m n p q r o : Option D) (ρ : Env) : lk (a :: b :: c :: d :: e :: f :: g :: h :: i :: j :: k :: l :: m :: n :: p :: q :: r :: o :: ρ) 17 = o := rfl
@[simp] theorem lk_18 (a b c d e f g h i j k l m n p q r s o : Option D) (ρ : Env) : lk (a :: b :: c :: d :: e :: f :: g :: h :: i :: j :: k :: l :: m :: n :: p :: q :: r :: s :: o :: ρ) 18 = o := rfl
@[simp] theorem lk_19 (a b c d e f g h i j k l m n p q r s t o : Option D) (ρ : Env) : lk (a :: b :: c :: d :: e :: f :: g :: h :: i :: j :: k :: l :: m :: n :: p :: q :: r :: s :: t :: o :: ρ) 19 = o := rfl
/-! operations -/
@[simp] theorem bin_add (i j : Int) : bin .add (.int i) (.int j) w = some (.int (i + j)) := rfl
@[simp] theorem bin_sub (i j : Int) : bin .sub (.int i) (.int j) w = some (.int (i - j)) := rfl
theorem bin_mul (i j : Int) : bin .mul (.int i) (.int j) w = if cmul i j = true then some (.int (i * j)) else none := rfl
theorem bin_fdiv (i j : Int) : bin .fdiv (.int i) (.int j) w = if 0 < j ∧ j < 1073741824 then some (.int (i / j)) else none := rfl
theorem bin_mod (i j : Int) : bin .mod (.int i) (.int j) w = if 0 < j then some (.int (i % j)) else none := rfl
@[simp] theorem cop_lt (i j : Int) : copD .lt (.int i) (.int j) w = some (decide (i < j)) := rfl
@[simp] theorem cop_le (i j : Int) : copD .le (.int i) (.int j) w = some (decide (i ≤ j)) := rfl
@[simp] theorem cop_gt (i j : Int) : copD .gt (.int i) (.int j) w = some (decide (j < i)) := rfl
@[simp] theorem cop_ge (i j : Int) : copD .ge (.int i) (.int j) w = some (decide (j ≤ i)) := rfl
@[simp] theorem cop_eqi (i j : Int) : copD .eq (.int i) (.int j) w = some (decide (i = j)) := by
  show some (i == j) = _
  congr 1
@[simp] theorem cop_nei (i j : Int) : copD .ne (.int i) (.int j) w = some (!decide (i = j)) := by
  show some (!(i == j)) = _
  congr 1
theorem cop_isin (x : D) (ys : List D) : copD .isin x (.tup ys) w = if (flatD x && ys.all flatD) = true then some (ys.any fun z => deq z x) else none := rfl
theorem cop_notin (x : D) (ys : List D) : copD .notin x (.tup ys) w = (if (flatD x && ys.all flatD) = true then some (ys.any fun z => deq z x) else none).map (!·) := rfl
theorem ixN_ok {n j : Nat} (h : j < n) : ixN n (j : Int) = some j := by
  unfold ixN
  rw [if_pos (by omega), if_pos (by omega)]
  rfl
theorem atI_ok {xs : List D} {j : Nat} (h : j < xs.length) : atI xs (j : Int) = xs[j]? := by
  unfold atI
  rw [ixN_ok h]
  rfl
@[simp] theorem ix_tup0 (a : D) (xs : List D) : ixD (.tup (a :: xs)) (.int 0) w = some a := atI_ok (xs := a :: xs) (j := 0) (by simp)
@[simp] theorem ix_lst0 (a : D) (xs : List D) : ixD (.lst (a :: xs)) (.int 0) w = some a := atI_ok (xs := a :: xs) (j := 0) (by simp)
@[simp] theorem ix_tup1 (a b : D) (xs : List D) : ixD (.tup (a :: b :: xs)) (.int 1) w = some b := atI_ok (xs := a :: b :: xs) (j := 1) (by simp)
@[simp] theorem ix_lst1 (a b : D) (xs : List D) : ixD (.lst (a :: b :: xs)) (.int 1) w = some b := atI_ok (xs := a :: b :: xs) (j := 1) (by simp)
@[simp] theorem ix_tup2 (a b c : D) (xs : List D) : ixD (.tup (a :: b :: c :: xs)) (.int 2) w = some c := atI_ok (xs := a :: b :: c :: xs) (j := 2) (by simp)
@[simp] theorem ix_lst2 (a b c : D) (xs : List D) : ixD (.lst (a :: b :: c :: xs)) (.int 2) w = some c := atI_ok (xs := a :: b :: c :: xs) (j := 2) (by simp)
@[simp] theorem ix_tup3 (a b c d : D) (xs : List D) : ixD (.tup (a :: b :: c :: d :: xs)) (.int 3) w = some d := atI_ok (xs := a :: b :: c :: d :: xs) (j := 3) (by simp)
@[simp] theorem ix_lst3 (a b c d : D) (xs : List D) : ixD (.lst (a :: b :: c :: d :: xs)) (.int 3) w = some d := atI_ok (xs := a :: b :: c :: d :: xs) (j := 3) (by simp)
@[simp] theorem ix_tup4 (a b c d e : D) (xs : List D) : ixD (.tup (a :: b :: c :: d :: e :: xs)) (.int 4) w = some e := atI_ok (xs := a :: b :: c :: d :: e :: xs) (j := 4) (by simp)
@[simp] theorem ix_lst4 (a b c d e : D) (xs : List D) : ixD (.lst (a :: b :: c :: d :: e :: xs)) (.int 4) w = some e := atI_ok (xs := a :: b :: c :: d :: e :: xs) (j := 4) (by simp)
@[simp] theorem ix_tup5 (a b c d e f : D) (xs : List D) : ixD (.tup (a :: b :: c :: d :: e :: f :: xs)) (.int 5) w = some f := atI_ok (xs := a :: b :: c :: d :: e :: f :: xs) (j := 5) (by simp)
@[simp] theorem ix_lst5 (a b c d e f : D) (xs : List D) : ixD (.lst (a :: b :: c :: d :: e :: f :: xs)) (.int 5) w = some f := atI_ok (xs := a :: b :: c :: d :: e :: f :: xs) (j := 5) (by simp)
@[simp] theorem ofStr_inj (a b : String) : (Str.ofString a = Str.ofString b) ↔ a = b := by
  rw [Str.ofString_eq_toList, Str.ofString_eq_toList]
  constructor
  · intro h
    have h1 : (a.toList.map Char.toNat).toArray = (b.toList.map Char.toNat).toArray := Str.mk.inj h
    have h2 : a.toList.map Char.toNat = b.toList.map Char.toNat := by simpa using congrArg Array.toList h1
    have h3 : a.toList = b.toList := List.map_inj_right (fun x y e => Char.toNat_inj.mp e) |>.mp h2
    exact String.toList_inj.mp h3
  · intro h; rw [h]
theorem beq_dec (a x : Str) : (a == x) = decide (x = a) := by
  by_cases h : x = a
  · simp [h]
  · rw [decide_eq_false h]
    exact beq_eq_false_iff_ne.mpr (Ne.symm h)
@[simp] theorem cop_eqs (i j : Str) : copD .eq (.str i) (.str j) w = some (decide (i = j)) := by
  show some (i == j) = _
  rw [beq_dec]
  simp [eq_comm]
@[simp] theorem cop_nes (i j : Str) : copD .ne (.str i) (.str j) w = some (!decide (i = j)) := by
  show some (!(i == j)) = _
  rw [beq_dec]
  simp [eq_comm]
/-- is the word among these? -/
@[simp] theorem cop_in1 (x a : Str) : copD .isin (.str x) (.tup [.str a]) w = some (decide (x = a)) := by
  rw [cop_isin]
  show some ((a == x) || false) = _
  rw [beq_dec, Bool.or_false]
@[simp] theorem cop_in2 (x a b : Str) : copD .isin (.str x) (.tup [.str a, .str b]) w = some (decide (x = a ∨ x = b)) := by
  rw [cop_isin]
  show some ((a == x) || ((b == x) || false)) = _
  rw [beq_dec, beq_dec, Bool.or_false, Bool.decide_or]
@[simp] theorem cop_in3 (x a b c : Str) : copD .isin (.str x) (.tup [.str a, .str b, .str c]) w = some (decide (x = a ∨ x = b ∨ x = c)) := by
  rw [cop_isin]
  show some ((a == x) || ((b == x) || ((c == x) || false))) = _
  rw [beq_dec, beq_dec, beq_dec, Bool.or_false, Bool.decide_or, Bool.decide_or]
@[simp] theorem cop_nin2 (x a b : Str) : copD .notin (.str x) (.tup [.str a, .str b]) w = some (!decide (x = a ∨ x = b)) := by
  rw [cop_notin]
  show some (!((a == x) || ((b == x) || false))) = _
  rw [beq_dec, beq_dec, Bool.or_false, Bool.decide_or]
@[simp] theorem pr_min2 (i j : Int) : prim .min2 [.int i, .int j] w = .ok (.int (min i j)) w := by
  show Res.ok (D.int (if j < i then j else i)) w = _
  congr 2; omega
@[simp] theorem pr_max2 (i j : Int) : prim .max2 [.int i, .int j] w = .ok (.int (max i j)) w := by
  show Res.ok (D.int (if i < j then j else i)) w = _
  congr 2; omega
@[simp] theorem truth_b (b : Bool) : truth (.bl b) = some b := rfl
@[simp] theorem of_bl (c : Prop) [Decidable c] : (Res.of (some (D.bl (decide c))) w) = .ok (.bl (decide c)) w := rfl
@[simp] theorem pr_rng1 (j : Int) : prim .rng1 [.int j] w = .ok (.rng 0 j) w := rfl
@[simp] theorem cop_inr (i lo hi : Int) : copD .isin (.int i) (.rng lo hi) w = some (decide (lo ≤ i ∧ i < hi)) := rfl
@[simp] theorem pr_len_lst (xs : List D) : prim .len [.lst xs] w = .ok (.int xs.length) w := rfl
@[simp] theorem pr_len_tup (xs : List D) : prim .len [.tup xs] w = .ok (.int xs.length) w := rfl
@[simp] theorem isi_ti (d : List D) : isi .tuple (.tup d) = some true := rfl
@[simp] theorem isi_ii (d : Int) : isi .int (.int d) = some true := rfl
@[simp] theorem isi_bi (d : Int) : isi .bool (.int d) = some false := rfl
@[simp] theorem isi_ss (d : Str) : isi .str (.str d) = some true := rfl
@[simp] theorem isi_ll (d : List D) : isi .list (.lst d) = some true := rfl
@[simp] theorem cop_isnot (a b : Bool) : copD .isnot (.bl a) (.bl b) w = some (!decide (a = b)) := rfl
@[simp] theorem cop_is (a b : Bool) : copD .is_ (.bl a) (.bl b) w = some (decide (a = b)) := rfl
end
end Ir
namespace Ir
open PySem
section
variable {F : Nat → List D → Wd → Res D} {sub : Nat → Nat → Bool} {ρ : Env} {w : Wd}
@[simp] theorem evE_meth (m : Mth) (a : E) (es : Es) : evE F (.meth m a es) ρ w = (evE F a ρ w).bind fun x w => if recvB m x w = true then (evEs F es ρ w).bind fun ds w => meth m x ds w else .stk := rfl
@[simp] theorem recv_last (w0 : Wd) (xs : List D) : recvB .append (.loc w0.length) (w0 ++ [.lst xs]) = true := by
  unfold recvB dr; simp
theorem app_last (w0 : Wd) (xs : List D) (y : D) (h : xs.length < line) : meth .append (.loc w0.length) [y] (w0 ++ [.lst xs]) = .ok .non (w0 ++ [.lst (xs ++ [y])]) := by
  unfold meth; simp [h]
@[simp] theorem ix_last (w0 : Wd) (acc : List D) (s : D) : ixD (.loc w0.length) (.int (-1)) (w0 ++ [.lst (acc ++ [s])]) = some s := by
  have e : dr (w0 ++ [.lst (acc ++ [s])]) (.loc w0.length) = some (.lst (acc ++ [s])) := by unfold dr; simp
  unfold ixD
  rw [e]
  show atI (acc ++ [s]) (-1) = some s
  unfold atI ixN
  rw [if_neg (by decide), if_pos (by simp; omega)]
  have : (-1 + ((acc ++ [s]).length : Int)).toNat = acc.length := by rw [List.length_append, List.length_cons, List.length_nil]; omega
  show (acc ++ [s])[(-1 + ((acc ++ [s]).length : Int)).toNat]? = _
  rw [this]; simp
@[simp] theorem fz_last (w0 : Wd) (xs : List D) (a b c d : Option D) : fzD 3 [a, b, c, some (.loc w0.length), d] (w0 ++ [.lst xs]) = .nx [a, b, c, some (.lst xs), d] (w0 ++ [.dead]) := by
  unfold fzD; simp
def scanT (stp : D → D → D) : D → List D → List D
  | _, [] => []
  | s, d :: ds => stp s d :: scanT stp (stp s d) ds
def lastO (x : Option D) : List D → Option D
  | [] => x
  | d :: ds => lastO (some d) ds
def appBody (G : Nat) : Ss := .cons (.ex (.meth .append (.var 3) (.cons (.call G (.cons (.var 0) (.cons (.var 1) (.cons (.ix (.var 3) (.neg (.con (.int 1)))) (.cons (.var 4) .nil))))) .nil))) .nil
theorem app_loop {G : Nat} {way sh row : D} {stp : D → D → D} {P Q : D → Prop} (hF : ∀ s d w, P s → Q d → F G [way, sh, s, d] w = .ok (stp s d) w) (hP : ∀ s d, P s → Q d → P (stp s d)) :
    ∀ (ds : List D), (∀ d ∈ ds, Q d) → ∀ (acc : List D) (s : D), P s → acc.length + 1 + ds.length ≤ line → ∀ (w0 : Wd) (x : Option D),
      forL (.nm 4) (evSs F sub (appBody G)) ds [some way, some sh, some row, some (.loc w0.length), x] (w0 ++ [.lst (acc ++ [s])]) = .nx [some way, some sh, some row, some (.loc w0.length), lastO x ds] (w0 ++ [.lst (acc ++ s :: scanT stp s ds)])
  | [], _, acc, s, _, _, w0, x => by simp [forL, scanT, lastO]
  | d :: ds, hq, acc, s, hs, hl, w0, x => by
    have hd := hq d (List.mem_cons_self ..)
    have e := hF s d (w0 ++ [.lst (acc ++ [s])]) hs hd
    have hl2 : (acc ++ [s]).length < line := by
      rw [List.length_append]
      simp only [List.length_cons, List.length_nil] at hl ⊢
      omega
    have a := app_last w0 (acc ++ [s]) (stp s d) hl2
    have ih := app_loop (row := row) hF hP ds (fun z hz => hq z (List.mem_cons_of_mem _ hz)) (acc ++ [s]) (stp s d) (hP s d hs hd) (by simp only [List.length_append, List.length_cons, List.length_nil] at hl ⊢; omega) w0 (some d)
    simp only [List.append_assoc, List.cons_append, List.nil_append] at a ih
    simp [forL, appBody, e, a]
    rw [appBody] at ih
    rw [ih]
    simp [scanT, lastO]
/-! comprehensions without effects -/
theorem lc_map {t : Nat} {c f : Env → Wd → Res D} {g : D → D} {w : Wd} (ht : t < ρ.length) : ∀ (ds acc : List D), (∀ d ∈ ds, c (ρ.set t (some d)) w = .ok (.bl true) w ∧ f (ρ.set t (some d)) w = .ok (g d) w) → acc.length + ds.length ≤ line →
    lcL (.nm t) ρ c f ds acc w = .ok (acc.reverse ++ ds.map g) w
  | [], acc, _, _ => by simp [lcL]
  | d :: ds, acc, h, hl => by
    have hl : acc.length + (ds.length + 1) ≤ line := hl
    obtain ⟨h1, h2⟩ := h d (List.mem_cons_self ..)
    have ih := lc_map (c := c) (f := f) (g := g) ht ds (g d :: acc) (fun z hz => h z (List.mem_cons_of_mem _ hz)) (by rw [List.length_cons]; omega)
    rw [lcL, bindT_nm, if_pos ht]
    show ((c (ρ.set t (some d)) w).bind fun b w => _) = _
    rw [h1]
    show ((f (ρ.set t (some d)) w).bind fun y w => _) = _
    rw [h2]
    show (if acc.length < line then lcL (.nm t) ρ c f ds (g d :: acc) w else .stk) = _
    rw [if_pos (by omega), ih]
    simp
/-! equality of data -/
mutual
theorem deq_refl : ∀ {a : D} {m : Nat}, pd a = some m → deq a a = true
  | .non, _, _ => rfl
  | .bl b, _, _ => by cases b <;> rfl
  | .int i, _, _ => by simp [deq]
  | .str s, _, _ => by simp [deq]
  | .tup xs, m, h => by
    rw [pd] at h
    cases q : pds xs with
    | none => rw [q] at h; cases h
    | some n => rw [deq]; exact deqs_refl q
  | .lst xs, m, h => by
    rw [pd] at h
    cases q : pds xs with
    | none => rw [q] at h; cases h
    | some n => rw [deq]; exact deqs_refl q
  | .scr _, _, h => by cases h
  | .dct _ _, _, h => by cases h
  | .set _, _, h => by cases h
  | .rng _ _, _, h => by cases h
  | .exc _, _, h => by cases h
  | .loc _, _, h => by cases h
theorem deqs_refl : ∀ {xs : List D} {m : Nat}, pds xs = some m → deqs xs xs = true
  | [], _, _ => rfl
  | x :: xs, m, h => by
    rw [pds] at h
    cases q : pd x with
    | none => rw [q] at h; cases h
    | some n =>
      cases q' : pds xs with
      | none => rw [q, q'] at h; cases h
      | some n' => rw [deqs, deq_refl q, deqs_refl q']; rfl
end
theorem eqD_refl {a : D} {m : Nat} (h : pd a = some m) (hm : m ≤ 60) : eqD a a = some true := by
  unfold eqD
  rw [h]
  simp [hm, deq_refl h]
theorem pds_le {n : Nat} : ∀ {xs : List D}, (∀ x ∈ xs, ∃ m, pd x = some m ∧ m ≤ n) → ∃ m, pds xs = some m ∧ m ≤ n
  | [], _ => ⟨0, rfl, Nat.zero_le _⟩
  | x :: xs, h => by
    obtain ⟨m, h1, h2⟩ := h x (List.mem_cons_self ..)
    obtain ⟨m', h3, h4⟩ := pds_le (xs := xs) fun z hz => h z (List.mem_cons_of_mem _ hz)
    exact ⟨max m m', by rw [pds, h1, h3], by omega⟩
end
end Ir
namespace Ir
open PySem
section
variable {F : Nat → List D → Wd → Res D} {sub : Nat → Nat → Bool} {ρ : Env} {w : Wd}
@[simp] theorem cop_neb (a b : Bool) : copD .ne (.bl a) (.bl b) w = some (!(a == b)) := rfl
@[simp] theorem cop_eqb (a b : Bool) : copD .eq (.bl a) (.bl b) w = some (a == b) := rfl
@[simp] theorem evE_dsp (ks vs : List D) : evE F (.dsp ks vs) ρ w = .ok (.dct ks vs) w := rfl
def setK (ρ : Env) (o : Option Wd) : SR := match o with
  | some w' => .nx ρ w'
  | none => .stk
@[simp] theorem setK_some (ρ : Env) (w : Wd) : setK ρ (some w) = .nx ρ w := rfl
@[simp] theorem evS_setix (a i e : E) : evS F sub (.setix a i e) ρ w = (evE F e ρ w).sr ρ fun y w => (evE F a ρ w).sr ρ fun x w => (evE F i ρ w).sr ρ fun k w => setK ρ (setD x k y w) := rfl
theorem bin_pow (i j : Int) : bin .pow (.int i) (.int j) w = if 0 ≤ j ∧ j ≤ 1000000 ∧ i.natAbs < 18446744073709551616 then some (.int (i ^ j.toNat)) else none := rfl
/-- the world of the draws -/
def Dw (ms : List Int) (c : Int) (rest : Wd) : Wd := .lst (ms.map .int) :: .lst [.loc 0, .int c] :: rest
@[simp] theorem dw_nums (ms : List Int) (c : Int) (rest : Wd) : ixD (.loc 1) (.int 0) (Dw ms c rest) = some (.loc 0) := rfl
@[simp] theorem dw_cnt (ms : List Int) (c : Int) (rest : Wd) : ixD (.loc 1) (.int 1) (Dw ms c rest) = some (.int c) := rfl
@[simp] theorem dw_set (ms : List Int) (c d : Int) (rest : Wd) : setD (.loc 1) (.int 1) (.int d) (Dw ms c rest) = some (Dw ms d rest) := rfl
@[simp] theorem dw_len (ms : List Int) (c : Int) (rest : Wd) : prim .len [.loc 0] (Dw ms c rest) = .ok (.int ms.length) (Dw ms c rest) := by
  show Res.ok (D.int ((ms.map D.int).length : Nat)) (Dw ms c rest) = _
  rw [List.length_map]
theorem dw_get (ms : List Int) (c : Int) (rest : Wd) (j : Nat) (h : j < ms.length) : ixD (.loc 0) (.int (j : Int)) (Dw ms c rest) = some (.int ms[j]) := by
  show atI (ms.map D.int) (j : Int) = _
  rw [atI_ok (by simpa using h)]
  simp [h]
theorem dw_put (ms : List Int) (c : Int) (rest : Wd) (j : Nat) (h : j < ms.length) (y : Int) : setD (.loc 0) (.int (j : Int)) (.int y) (Dw ms c rest) = some (Dw (ms.set j y) c rest) := by
  show ((ixN (ms.map D.int).length (j : Int)).map fun j => (Dw ms c rest).set 0 (.lst ((ms.map D.int).set j (.int y)))) = _
  rw [ixN_ok (by simpa using h)]
  show some ((Dw ms c rest).set 0 (.lst ((ms.map D.int).set j (.int y)))) = _
  unfold Dw
  simp [List.map_set]
theorem pds_ints : ∀ ns : List Int, pds (ns.map D.int) = some 0
  | [] => rfl
  | n :: ns => by rw [List.map_cons, pds, pds_ints ns]; rfl
theorem ne_scr (ns : List Int) : copD .ne (.scr ns) (.lst []) w = some (!ns.isEmpty) := by
  show (eqD (.lst (ns.map D.int)) (.lst [])).map (!·) = _
  unfold eqD
  rw [show pd (.lst (ns.map D.int)) = some 1 by rw [pd, pds_ints]; rfl]
  show some (!(deqs (ns.map D.int) [])) = _
  cases ns <;> rfl
def slK (o : Option (Option Int)) (f : Option Int → Res D) : Res D := match o with
  | some x => f x
  | none => .stk
@[simp] theorem slK_some (x : Option Int) (f : Option Int → Res D) : slK (some x) f = f x := rfl
@[simp] theorem evE_slc (p q : Bool) (a lo hi : E) : evE F (.slc p q a lo hi) ρ w = (evE F a ρ w).bind fun x w => (evE F lo ρ w).bind fun l w => slK (bnd p l) fun l' => (evE F hi ρ w).bind fun h w => slK (bnd q h) fun h' => .of (slcD x l' h' w) w := rfl
@[simp] theorem bnd_no (d : D) : bnd false d = some none := rfl
@[simp] theorem bnd_int (i : Int) : bnd true (.int i) = some (some i) := rfl
@[simp] theorem slc_tail (x : D) (xs : List D) : slcD (.lst (x :: xs)) (some 1) none w = some (.lst xs) := by
  show some (D.lst (cut (x :: xs) (some 1) none)) = _
  unfold cut sIx
  have e : (min (1 : Int) ((x :: xs).length : Nat)).toNat = 1 := by rw [List.length_cons]; omega
  simp only []
  rw [if_neg (by decide), e]
  simp
theorem slc_take (xs : List D) (n : Nat) : slcD (.lst xs) none (some (n : Int)) w = some (.lst (xs.take n)) := by
  show some (D.lst (cut xs none (some (n : Int)))) = _
  unfold cut sIx
  simp only []
  rw [if_neg (by omega)]
  have e : (min (n : Int) (xs.length : Nat)).toNat = min n xs.length := by omega
  rw [e]
  simp [List.take_eq_take_iff]
  try omega
theorem ix_lastL (x : D) (xs : List D) : ixD (.lst (x :: xs)) (.int (-1)) w = some (xs.getLastD x) := by
  show atI (x :: xs) (-1) = _
  unfold atI ixN
  rw [if_neg (by decide), if_pos (by rw [List.length_cons]; omega)]
  have : (-1 + ((x :: xs).length : Int)).toNat = xs.length := by rw [List.length_cons]; omega
  show (x :: xs)[(-1 + ((x :: xs).length : Int)).toNat]? = _
  rw [this]
  cases xs with
  | nil => rfl
  | cons y ys => simp [List.getLastD_cons, List.getLast?_eq_getElem?, List.getLast_eq_getElem, List.getLastD_eq_getLast?]
theorem ix_nth (xs : List D) (j : Nat) (h : j < xs.length) : ixD (.lst xs) (.int (j : Int)) w = some xs[j] := by
  show atI xs (j : Int) = _
  rw [atI_ok h, List.getElem?_eq_getElem h]
theorem add_lst (xs ys : List D) (h : xs.length + ys.length ≤ line) : bin .add (.lst xs) (.lst ys) w = some (.lst (xs ++ ys)) := by
  show (if xs.length + ys.length ≤ line then some (D.lst (xs ++ ys)) else none) = _
  rw [if_pos h]
def Pu (n : Nat) (a : D) : Prop := ∃ m, pd a = some m ∧ m ≤ n
theorem dr_pu {n : Nat} {a : D} (h : Pu n a) : dr w a = some a ∧ unscr a = a := by
  obtain ⟨m, h, _⟩ := h
  cases a with
  | loc _ => cases h
  | scr _ => cases h
  | _ => exact ⟨rfl, rfl⟩
theorem ne_refl {a : D} (h : Pu 60 a) : copD .ne a a w = some false := by
  obtain ⟨e1, e2⟩ := dr_pu (w := w) h
  obtain ⟨m, h1, h2⟩ := h
  unfold copD
  rw [e1]
  show (eqD (unscr a) (unscr a)).map (!·) = _
  rw [e2, eqD_refl h1 h2]
  rfl
theorem eq_refl {a : D} (h : Pu 60 a) : copD .eq a a w = some true := by
  obtain ⟨e1, e2⟩ := dr_pu (w := w) h
  obtain ⟨m, h1, h2⟩ := h
  unfold copD
  rw [e1]
  show eqD (unscr a) (unscr a) = _
  rw [e2, eqD_refl h1 h2]
theorem pu_lst {n : Nat} {xs : List D} (h : ∀ x ∈ xs, Pu n x) : Pu (n + 1) (.lst xs) := by
  obtain ⟨m, h1, h2⟩ := pds_le h
  exact ⟨m + 1, by rw [pd, h1]; rfl, by omega⟩
theorem pu_tup {n : Nat} {xs : List D} (h : ∀ x ∈ xs, Pu n x) : Pu (n + 1) (.tup xs) := by
  obtain ⟨m, h1, h2⟩ := pds_le h
  exact ⟨m + 1, by rw [pd, h1]; rfl, by omega⟩
theorem pu_int (i : Int) : Pu 0 (.int i) := ⟨0, rfl, Nat.le_refl _⟩
theorem pu_str (i : Str) : Pu 0 (.str i) := ⟨0, rfl, Nat.le_refl _⟩
theorem Pu.le {n m : Nat} {a : D} (h : Pu n a) (hm : n ≤ m) : Pu m a := let ⟨k, h1, h2⟩ := h; ⟨k, h1, Nat.le_trans h2 hm⟩
theorem pu_int2 (i j : Int) : Pu 1 (.tup [.int i, .int j]) := pu_tup (n := 0) fun x hx => by
  simp at hx
  rcases hx with rfl | rfl <;> exact pu_int _
theorem bls_true : ∀ (xs : List D), blsOf (xs.map fun _ => D.bl true) = some (xs.map fun _ => true)
  | [] => rfl
  | x :: xs => by rw [List.map_cons, blsOf, bls_true xs]; rfl
@[simp] theorem pr_all_true (xs : List D) : prim .all [.lst (xs.map fun _ => D.bl true)] w = .ok (.bl true) w := by
  show (Res.of ((blsOf (xs.map fun _ => D.bl true)).map fun bs => D.bl (bs.all id)) w) = _
  rw [bls_true]
  show Res.ok (D.bl ((xs.map fun _ => true).all id)) w = _
  congr 2
  simp
theorem scan_append (stp : D → D → D) : ∀ (xs : List D) (s d : D), scanT stp s (xs ++ [d]) = scanT stp s xs ++ [stp ((scanT stp s xs).getLastD s) d]
  | [], _, _ => rfl
  | x :: xs, s, d => by
    rw [List.cons_append, scanT, scan_append stp xs, scanT, List.cons_append, List.getLastD_cons]
theorem scan_len (stp : D → D → D) : ∀ (xs : List D) (s : D), (scanT stp s xs).length = xs.length
  | [], _ => rfl
  | x :: xs, s => by rw [scanT, List.length_cons, scan_len stp xs, List.length_cons]
theorem scan_all (stp : D → D → D) {P Q : D → Prop} (hP : ∀ s d, P s → Q d → P (stp s d)) : ∀ (xs : List D) (s : D), P s → (∀ d ∈ xs, Q d) → ∀ y ∈ scanT stp s xs, P y
  | [], _, _, _, y, hy => by simp [scanT] at hy
  | x :: xs, s, hs, hq, y, hy => by
    have h1 := hP s x hs (hq x (List.mem_cons_self ..))
    rw [scanT] at hy
    rcases List.mem_cons.mp hy with rfl | hy
    · exact h1
    · exact scan_all stp hP xs _ h1 (fun d hd => hq d (List.mem_cons_of_mem _ hd)) y hy
theorem scan_get (stp : D → D → D) : ∀ (xs : List D) (s : D) (j : Nat) (h : j < xs.length), (s :: scanT stp s xs)[j + 1]'(by rw [List.length_cons, scan_len]; omega) = stp ((s :: scanT stp s xs)[j]'(by rw [List.length_cons, scan_len]; omega)) xs[j]
  | x :: xs, s, 0, _ => rfl
  | x :: xs, s, j + 1, h => by
    have := scan_get stp xs (stp s x) j (by simpa using h)
    simpa [scanT] using this
theorem aug_loc (w0 : Wd) (xs ys : List D) (hz : xs.length + ys.length ≤ line) : augD .add (.loc w0.length) (.lst ys) (w0 ++ [.lst xs]) = .ok (.loc w0.length) (w0 ++ [.lst (xs ++ ys)]) := by
  unfold augD
  simp [dr, hz]
theorem aug_loop {e : E} {g : D → List D} {y : Option D} : ∀ (ds acc : List D) (w0 : Wd) (x : Option D), (∀ d ∈ ds, (g d).length ≤ 1000 ∧ ∀ w, evE F e [some (.loc w0.length), some d, y] w = .ok (.lst (g d)) w) → acc.length + 1000 * ds.length ≤ line →
    forL (.nm 1) (evSs F sub (.cons (.aug 0 .add e) .nil)) ds [some (.loc w0.length), x, y] (w0 ++ [.lst acc]) = .nx [some (.loc w0.length), lastO x ds, y] (w0 ++ [.lst (acc ++ ds.flatMap g)])
  | [], acc, w0, x, _, _ => by simp [forL, lastO]
  | d :: ds, acc, w0, x, h, hl => by
    obtain ⟨h1, h2⟩ := h d (List.mem_cons_self ..)
    rw [List.length_cons] at hl
    have a := aug_loc w0 acc (g d) (by omega)
    have ih := aug_loop ds (acc ++ g d) w0 (some d) (fun z hz => h z (List.mem_cons_of_mem _ hz)) (by rw [List.length_append]; omega)
    rw [forL]
    simp [h2, a, ih, lastO]
theorem lastD_mem : ∀ (ys : List D) (y : D), ys.getLastD y ∈ y :: ys
  | [], y => by simp
  | z :: zs, y => by rw [List.getLastD_cons]; exact List.mem_cons_of_mem _ (lastD_mem zs z)
theorem lc_none {t : Nat} {c f : Env → Wd → Res D} {w : Wd} (ht : t < ρ.length) : ∀ (ds acc : List D), (∀ d ∈ ds, c (ρ.set t (some d)) w = .ok (.bl false) w) → lcL (.nm t) ρ c f ds acc w = .ok acc.reverse w
  | [], acc, _ => by simp [lcL]
  | d :: ds, acc, h => by
    have h1 := h d (List.mem_cons_self ..)
    have ih := lc_none (c := c) (f := f) ht ds acc fun z hz => h z (List.mem_cons_of_mem _ hz)
    rw [lcL, bindT_nm, if_pos ht]
    show ((c (ρ.set t (some d)) w).bind fun b w => _) = _
    rw [h1]
    exact ih
theorem cop_nini2 (x a b : Int) : copD .notin (.int x) (.tup [.int a, .int b]) w = some (!decide (x = a ∨ x = b)) := by
  rw [cop_notin]
  have e : ∀ a : Int, (a == x) = decide (x = a) := fun a => by
    by_cases h : x = a
    · subst h; simp
    · rw [decide_eq_false h]
      exact beq_eq_false_iff_ne.mpr (Ne.symm h)
  show some (!((a == x) || ((b == x) || false))) = _
  rw [e, e, Bool.or_false, Bool.decide_or]
theorem scan_last (stp : D → D → D) : ∀ (xs : List D) (s : D), (scanT stp s xs).getLastD s = xs.foldl stp s
  | [], _ => rfl
  | x :: xs, s => by rw [scanT, List.getLastD_cons, scan_last stp xs, List.foldl_cons]
theorem tslc4 (a b c d e f : D) : slcD (.tup [a, b, c, d, e, f]) none (some 4) w = some (.tup [a, b, c, d]) := by rfl
theorem tslc1 (a b c d e f : D) : slcD (.tup [a, b, c, d, e, f]) (some 1) none w = some (.tup [b, c, d, e, f]) := by rfl
theorem tadd42 (a b c d e f : D) : bin .add (.tup [a, b, c, d]) (.tup [e, f]) w = some (.tup [a, b, c, d, e, f]) := by rfl
theorem tadd15 (a b c d e f : D) : bin .add (.tup [a]) (.tup [b, c, d, e, f]) w = some (.tup [a, b, c, d, e, f]) := by rfl
theorem rangeL_mem : ∀ (n : Nat) (lo c : Int) (y : D), y ∈ rangeL lo c n → ∃ i, y = .int i
  | 0, _, _, _, h => by simp [rangeL] at h
  | n + 1, lo, c, y, h => by
    rw [rangeL] at h
    rcases List.mem_cons.mp h with rfl | h
    · exact ⟨_, rfl⟩
    · exact rangeL_mem n _ _ y h
theorem ex_step {s : S} {ss : Ss} {ρ' : Env} {w' : Wd} {d : D} (h : evS F sub s ρ w = .nx ρ' w') (k : ∃ x, evSs F sub ss ρ' w' = .rt d x) : ∃ x, evSs F sub (.cons s ss) ρ w = .rt d x := by
  obtain ⟨x, hx⟩ := k
  exact ⟨x, by rw [evSs_cons, h]; exact hx⟩
theorem step_nx {s : S} {ss : Ss} {ρ' : Env} {w' : Wd} (h : evS F sub s ρ w = .nx ρ' w') : evSs F sub (.cons s ss) ρ w = evSs F sub ss ρ' w' := by
  rw [evSs_cons, h]; rfl
end
end Ir
namespace L19
open PySem Ir
abbrev c_BACKS : D := (.tup [(.str "lead"), (.str "window")])
abbrev c_FOLLOWS : D := (.tup [(.str "least"), (.str "page"), (.str "middle"), (.str "margin")])
abbrev c_KINDS : D := (.tup [(.str "up"), (.str "down"), (.str "home"), (.str "end"), (.str "pageup"), (.str "pagedown"), (.str "wheelup"), (.str "wheeldown"), (.str "click")])
abbrev c_MOST_ROW : D := (.int 40)
abbrev c_PAGED : D := (.tup [(.str "lead"), (.str "both"), (.str "edge")])
abbrev c_START : D := (.tup [(.int 0), (.int 0)])
abbrev c_STEPS : D := (.tup [(.str "whole"), (.str "less")])
abbrev c_WHEELS : D := (.tup [(.str "free"), (.str "taken")])
/-- is_int -/
def b0 : Ss :=
  (.cons (.ret (.and_ (.isi .int (.var 0)) (.cons (.nt (.isi .bool (.var 0))) (.cons (.chain .le .le (.var 1) (.var 0) (.var 2)) .nil)))) .nil)
/-- is_form -/
def b1 : Ss :=
  (.cons (.ite (.or_ (.nt (.isi .tuple (.var 0))) (.cons (.cmp .ne (.prim .len (.cons (.var 0) .nil)) (.con (.int 2))) .nil)) (.cons (.ret (.con (.bl false))) .nil) .nil) 
  (.cons (.ret (.and_ (.call 0 (.cons (.ix (.var 0) (.con (.int 0))) (.cons (.con (.int 3)) (.cons (.con (.int 8)) .nil)))) (.cons (.call 0 (.cons (.ix (.var 0) (.con (.int 1))) (.cons (.con (.int 2)) (.cons (.con (.int 4)) .nil)))) (.cons (.cmp .lt (.ix (.var 0) (.con (.int 1))) (.ix (.var 0) (.con (.int 0)))) .nil)))) .nil))
/-- check_shape -/
def b2 : Ss :=
  (.cons (.ite (.nt (.call 1 (.cons (.var 0) .nil))) (.cons (.rais 3) .nil) .nil) .nil)
/-- is_one -/
def b3 : Ss :=
  (.cons (.ite (.or_ (.nt (.isi .tuple (.var 1))) (.cons (.cmp .notin (.prim .len (.cons (.var 1) .nil)) (.tup (.cons (.con (.int 1)) (.cons (.con (.int 2)) .nil)))) (.cons (.nt (.isi .str (.ix (.var 1) (.con (.int 0))))) .nil))) (.cons (.ret (.con (.bl false))) .nil) .nil) 
  (.cons (.ite (.or_ (.cmp .notin (.ix (.var 1) (.con (.int 0))) (.gl "KINDS" c_KINDS)) (.cons (.cmp .ne (.cmp .eq (.ix (.var 1) (.con (.int 0))) (.con (.str "click"))) (.cmp .eq (.prim .len (.cons (.var 1) .nil)) (.con (.int 2)))) .nil)) (.cons (.ret (.con (.bl false))) .nil) .nil) 
  (.cons (.ret (.or_ (.cmp .eq (.prim .len (.cons (.var 1) .nil)) (.con (.int 1))) (.cons (.call 0 (.cons (.ix (.var 1) (.con (.int 1))) (.cons (.con (.int 0)) (.cons (.bin .sub (.ix (.var 0) (.con (.int 1))) (.con (.int 1))) .nil)))) .nil))) .nil)))
/-- are_deeds -/
def b4 : Ss :=
  (.cons (.ret (.and_ (.isi .list (.var 1)) (.cons (.cmp .le (.prim .len (.cons (.var 1) .nil)) (.gl "MOST_ROW" c_MOST_ROW)) (.cons (.prim .all (.cons (.lc false (.nm 2) (.val (.var 1)) (.con (.bl true)) (.call 3 (.cons (.var 0) (.cons (.var 2) .nil)))) .nil)) .nil)))) .nil)
/-- check_row -/
def b5 : Ss :=
  (.cons (.ite (.nt (.call 4 (.cons (.var 0) (.cons (.var 1) .nil)))) (.cons (.rais 2) .nil) .nil) .nil)
/-- bounded -/
def b6 : Ss :=
  (.cons (.ret (.prim .max2 (.cons (.var 1) (.cons (.prim .min2 (.cons (.var 2) (.cons (.var 0) .nil))) .nil)))) .nil)
/-- place_of -/
def b7 : Ss :=
  (.cons (.asg (.nm 2) (.bin .sub (.ix (.var 1) (.con (.int 1))) (.ix (.var 1) (.con (.int 0))))) 
  (.cons (.ret (.ite (.chain .le .lt (.con (.int 0)) (.var 2) (.ix (.var 0) (.con (.int 1)))) (.var 2) (.neg (.con (.int 1))))) .nil))
/-- nearest -/
def b8 : Ss :=
  (.cons (.ret (.call 6 (.cons (.var 2) (.cons (.var 1) (.cons (.bin .sub (.bin .add (.var 1) (.ix (.var 0) (.con (.int 1)))) (.con (.int 1))) .nil))))) .nil)
/-- wished -/
def b9 : Ss :=
  (.cons (.asg (.tup (.cons (.nm 4) (.cons (.nm 5) .nil))) (.var 1)) 
  (.cons (.asg (.nm 3) (.ite (.and_ (.cmp .eq (.ix (.var 0) (.con (.int 0))) (.con (.str "margin"))) (.cons (.cmp .gt (.var 5) (.con (.int 2))) .nil)) (.con (.int 1)) (.con (.int 0)))) 
  (.cons (.ret (.tup (.cons (.prim .max2 (.cons (.con (.int 0)) (.cons (.bin .sub (.var 2) (.var 3)) .nil))) (.cons (.prim .min2 (.cons (.bin .sub (.var 4) (.con (.int 1))) (.cons (.bin .add (.var 2) (.var 3)) .nil))) .nil)))) .nil)))
/-- followed -/
def b10 : Ss :=
  (.cons (.asg (.tup (.cons (.tup (.cons (.nm 6) (.cons (.nm 7) .nil))) (.cons (.tup (.cons (.nm 5) (.cons (.nm 8) .nil))) .nil))) (.tup (.cons (.var 1) (.cons (.var 2) .nil)))) 
  (.cons (.asg (.tup (.cons (.nm 3) (.cons (.nm 4) .nil))) (.call 9 (.cons (.var 0) (.cons (.var 1) (.cons (.var 8) .nil))))) 
  (.cons (.ite (.cmp .isin (.ix (.var 0) (.con (.int 0))) (.tup (.cons (.con (.str "least")) (.cons (.con (.str "margin")) .nil)))) (.cons (.asg (.nm 5) (.prim .min2 (.cons (.var 5) (.cons (.var 3) .nil)))) 
    (.cons (.ret (.tup (.cons (.prim .max2 (.cons (.var 5) (.cons (.bin .add (.bin .sub (.var 4) (.var 7)) (.con (.int 1))) .nil))) (.cons (.var 8) .nil)))) .nil)) .nil) 
  (.cons (.ite (.cmp .ge (.call 7 (.cons (.var 1) (.cons (.var 2) .nil))) (.con (.int 0))) (.cons (.ret (.var 2)) .nil) .nil) 
  (.cons (.ite (.cmp .eq (.ix (.var 0) (.con (.int 0))) (.con (.str "page"))) (.cons (.ret (.tup (.cons (.prim .min2 (.cons (.bin .mul (.bin .fdiv (.var 8) (.var 7)) (.var 7)) (.cons (.bin .sub (.var 6) (.var 7)) .nil))) (.cons (.var 8) .nil)))) .nil) .nil) 
  (.cons (.ret (.tup (.cons (.call 6 (.cons (.bin .sub (.var 8) (.bin .fdiv (.var 7) (.con (.int 2)))) (.cons (.con (.int 0)) (.cons (.bin .sub (.var 6) (.var 7)) .nil)))) (.cons (.var 8) .nil)))) .nil))))))
/-- arrow -/
def b11 : Ss :=
  (.cons (.asg (.tup (.cons (.nm 5) (.cons (.nm 4) .nil))) (.var 2)) 
  (.cons (.ite (.cmp .eq (.ix (.var 0) (.con (.int 5))) (.con (.str "window"))) (.cons (.asg (.nm 4) (.call 8 (.cons (.var 1) (.cons (.var 5) (.cons (.var 4) .nil))))) .nil) .nil) 
  (.cons (.aug 4 .add (.var 3)) 
  (.cons (.ite (.nt (.chain .le .lt (.con (.int 0)) (.var 4) (.ix (.var 1) (.con (.int 0))))) (.cons (.asg (.nm 4) (.ite (.cmp .eq (.ix (.var 0) (.con (.int 3))) (.con (.int 1))) (.bin .mod (.var 4) (.ix (.var 1) (.con (.int 0)))) (.bin .sub (.var 4) (.var 3)))) .nil) .nil) 
  (.cons (.ret (.call 10 (.cons (.var 0) (.cons (.var 1) (.cons (.tup (.cons (.var 5) (.cons (.var 4) .nil))) .nil))))) .nil)))))
/-- paged -/
def b12 : Ss :=
  (.cons (.asg (.tup (.cons (.tup (.cons (.nm 7) (.cons (.nm 8) .nil))) (.cons (.tup (.cons (.nm 9) (.cons (.nm 10) .nil))) .nil))) (.tup (.cons (.var 1) (.cons (.var 2) .nil)))) 
  (.cons (.asg (.nm 4) (.bin .mul (.var 3) (.ite (.cmp .eq (.ix (.var 0) (.con (.int 1))) (.con (.str "whole"))) (.var 8) (.bin .sub (.var 8) (.con (.int 1)))))) 
  (.cons (.ite (.cmp .eq (.ix (.var 0) (.con (.int 2))) (.con (.str "both"))) (.cons (.asg (.nm 6) (.call 6 (.cons (.bin .add (.var 9) (.var 4)) (.cons (.con (.int 0)) (.cons (.bin .sub (.var 7) (.var 8)) .nil))))) 
    (.cons (.ite (.cmp .eq (.var 6) (.var 9)) (.cons (.ret (.call 10 (.cons (.var 0) (.cons (.var 1) (.cons (.tup (.cons (.var 9) (.cons (.ite (.cmp .lt (.var 3) (.con (.int 0))) (.con (.int 0)) (.bin .sub (.var 7) (.con (.int 1)))) .nil))) .nil))))) .nil) .nil) 
    (.cons (.ret (.call 10 (.cons (.var 0) (.cons (.var 1) (.cons (.tup (.cons (.var 6) (.cons (.call 6 (.cons (.bin .sub (.bin .add (.var 10) (.var 6)) (.var 9)) (.cons (.con (.int 0)) (.cons (.bin .sub (.var 7) (.con (.int 1))) .nil)))) .nil))) .nil))))) .nil))) .nil) 
  (.cons (.asg (.nm 5) (.ite (.cmp .lt (.var 3) (.con (.int 0))) (.var 9) (.bin .sub (.bin .add (.var 9) (.var 8)) (.con (.int 1))))) 
  (.cons (.ite (.and_ (.cmp .eq (.ix (.var 0) (.con (.int 2))) (.con (.str "edge"))) (.cons (.cmp .ge (.call 7 (.cons (.var 1) (.cons (.var 2) .nil))) (.con (.int 0))) (.cons (.cmp .ne (.var 10) (.var 5)) .nil))) (.cons (.ret (.call 10 (.cons (.var 0) (.cons (.var 1) (.cons (.tup (.cons (.var 9) (.cons (.var 5) .nil))) .nil))))) .nil) .nil) 
  (.cons (.ret (.call 10 (.cons (.var 0) (.cons (.var 1) (.cons (.tup (.cons (.var 9) (.cons (.call 6 (.cons (.bin .add (.var 10) (.var 4)) (.cons (.con (.int 0)) (.cons (.bin .sub (.var 7) (.con (.int 1))) .nil)))) .nil))) .nil))))) .nil))))))
/-- wheeled -/
def b13 : Ss :=
  (.cons (.asg (.nm 4) (.call 6 (.cons (.bin .add (.ix (.var 2) (.con (.int 0))) (.var 3)) (.cons (.con (.int 0)) (.cons (.bin .sub (.ix (.var 1) (.con (.int 0))) (.ix (.var 1) (.con (.int 1)))) .nil))))) 
  (.cons (.ret (.tup (.cons (.var 4) (.cons (.ite (.cmp .eq (.ix (.var 0) (.con (.int 4))) (.con (.str "taken"))) (.call 8 (.cons (.var 1) (.cons (.var 4) (.cons (.ix (.var 2) (.con (.int 1))) .nil)))) (.ix (.var 2) (.con (.int 1)))) .nil)))) .nil))
/-- step -/
def b14 : Ss :=
  (.cons (.asg (.nm 4) (.ix (.var 3) (.con (.int 0)))) 
  (.cons (.asg (.nm 5) (.ite (.cmp .isin (.var 4) (.tup (.cons (.con (.str "up")) (.cons (.con (.str "pageup")) (.cons (.con (.str "wheelup")) .nil))))) (.neg (.con (.int 1))) (.con (.int 1)))) 
  (.cons (.ite (.cmp .isin (.var 4) (.tup (.cons (.con (.str "up")) (.cons (.con (.str "down")) .nil)))) (.cons (.ret (.call 11 (.cons (.var 0) (.cons (.var 1) (.cons (.var 2) (.cons (.var 5) .nil)))))) .nil) .nil) 
  (.cons (.ite (.cmp .isin (.var 4) (.tup (.cons (.con (.str "pageup")) (.cons (.con (.str "pagedown")) .nil)))) (.cons (.ret (.call 12 (.cons (.var 0) (.cons (.var 1) (.cons (.var 2) (.cons (.var 5) .nil)))))) .nil) .nil) 
  (.cons (.ite (.cmp .isin (.var 4) (.tup (.cons (.con (.str "wheelup")) (.cons (.con (.str "wheeldown")) .nil)))) (.cons (.ret (.call 13 (.cons (.var 0) (.cons (.var 1) (.cons (.var 2) (.cons (.var 5) .nil)))))) .nil) .nil) 
  (.cons (.ite (.cmp .eq (.var 4) (.con (.str "click"))) (.cons (.ret (.tup (.cons (.ix (.var 2) (.con (.int 0))) (.cons (.bin .add (.ix (.var 2) (.con (.int 0))) (.ix (.var 3) (.con (.int 1)))) .nil)))) .nil) .nil) 
  (.cons (.ret (.call 10 (.cons (.var 0) (.cons (.var 1) (.cons (.tup (.cons (.ix (.var 2) (.con (.int 0))) (.cons (.ite (.cmp .eq (.var 4) (.con (.str "home"))) (.con (.int 0)) (.bin .sub (.ix (.var 1) (.con (.int 0))) (.con (.int 1)))) .nil))) .nil))))) .nil)))))))
/-- is_word -/
def b15 : Ss :=
  (.cons (.ret (.and_ (.isi .str (.var 0)) (.cons (.cmp .isin (.var 0) (.var 1)) .nil))) .nil)
/-- is_way -/
def b16 : Ss :=
  (.cons (.ite (.or_ (.nt (.isi .tuple (.var 0))) (.cons (.cmp .ne (.prim .len (.cons (.var 0) .nil)) (.con (.int 6))) .nil)) (.cons (.ret (.con (.bl false))) .nil) .nil) 
  (.cons (.ite (.or_ (.nt (.call 15 (.cons (.ix (.var 0) (.con (.int 0))) (.cons (.gl "FOLLOWS" c_FOLLOWS) .nil)))) (.cons (.nt (.call 15 (.cons (.ix (.var 0) (.con (.int 1))) (.cons (.gl "STEPS" c_STEPS) .nil)))) (.cons (.nt (.call 15 (.cons (.ix (.var 0) (.con (.int 2))) (.cons (.gl "PAGED" c_PAGED) .nil)))) .nil))) (.cons (.ret (.con (.bl false))) .nil) .nil) 
  (.cons (.ret (.and_ (.call 0 (.cons (.ix (.var 0) (.con (.int 3))) (.cons (.con (.int 0)) (.cons (.con (.int 1)) .nil)))) (.cons (.call 15 (.cons (.ix (.var 0) (.con (.int 4))) (.cons (.gl "WHEELS" c_WHEELS) .nil))) (.cons (.call 15 (.cons (.ix (.var 0) (.con (.int 5))) (.cons (.gl "BACKS" c_BACKS) .nil))) .nil)))) .nil)))
/-- check_way -/
def b17 : Ss :=
  (.cons (.ite (.nt (.call 16 (.cons (.var 0) .nil))) (.cons (.rais 1) .nil) .nil) .nil)
/-- states_of -/
def b18 : Ss :=
  (.cons (.asg (.nm 3) (.cel (.cons (.gl "START" c_START) .nil))) 
  (.cons (.for_ (.nm 4) (.val (.var 2)) (.cons (.ex (.meth .append (.var 3) (.cons (.call 14 (.cons (.var 0) (.cons (.var 1) (.cons (.ix (.var 3) (.neg (.con (.int 1)))) (.cons (.var 4) .nil))))) .nil))) .nil)) 
  (.cons (.fz 3) 
  (.cons (.ret (.var 3)) .nil))))
/-- states_along -/
def b19 : Ss :=
  (.cons (.ex (.call 17 (.cons (.var 0) .nil))) 
  (.cons (.ex (.call 2 (.cons (.var 1) .nil))) 
  (.cons (.ex (.call 5 (.cons (.var 1) (.cons (.var 2) .nil)))) 
  (.cons (.ret (.call 18 (.cons (.var 0) (.cons (.var 1) (.cons (.var 2) .nil))))) .nil))))
/-- state_after -/
def b20 : Ss :=
  (.cons (.ret (.ix (.call 19 (.cons (.var 0) (.cons (.var 1) (.cons (.var 2) .nil)))) (.neg (.con (.int 1))))) .nil)
/-- _law_start -/
def b21 : Ss :=
  (.cons (.ret (.cel (.cons (.ite (.cmp .ne (.var 0) (.lst .nil)) (.prim .listC (.cons (.var 0) .nil)) (.cel (.cons (.con (.int 0)) .nil))) (.cons (.con (.int 0)) .nil)))) .nil)
/-- _law_draw -/
def b22 : Ss :=
  (.cons (.asg (.nm 2) (.ix (.var 0) (.con (.int 0)))) 
  (.cons (.setix (.var 0) (.con (.int 1)) (.bin .add (.ix (.var 0) (.con (.int 1))) (.con (.int 1)))) 
  (.cons (.asg (.nm 3) (.bin .mod (.ix (.var 0) (.con (.int 1))) (.prim .len (.cons (.var 2) .nil)))) 
  (.cons (.asg (.nm 4) (.ix (.var 2) (.var 3))) 
  (.cons (.ite (.cmp .ge (.var 4) (.con (.int 1000000000000000000))) (.cons (.setix (.var 2) (.var 3) (.bin .fdiv (.var 4) (.var 1))) 
    (.cons (.ret (.bin .mod (.var 4) (.var 1))) .nil)) .nil) 
  (.cons (.asg (.nm 5) (.bin .mod (.bin .add (.var 4) (.bin .mul (.con (.int 104729)) (.ix (.var 0) (.con (.int 1))))) (.con (.int 4294967291)))) 
  (.cons (.asg (.nm 5) (.bin .mod (.bin .pow (.var 5) (.con (.int 5))) (.con (.int 4294967279)))) 
  (.cons (.ret (.bin .mod (.bin .fdiv (.bin .mod (.bin .add (.bin .mul (.bin .fdiv (.var 5) (.con (.int 64))) (.con (.int 69621))) (.var 5)) (.con (.int 4294967231))) (.con (.int 8))) (.var 1))) .nil))))))))
/-- _law_pick -/
def b23 : Ss :=
  (.cons (.ret (.ix (.var 1) (.call 22 (.cons (.var 0) (.cons (.prim .len (.cons (.var 1) .nil)) .nil))))) .nil)
/-- _law_kinds -/
def b24 : Ss :=
  (.cons (.ret (.lst (.cons (.con (.str "up")) (.cons (.con (.str "down")) (.cons (.con (.str "home")) (.cons (.con (.str "end")) (.cons (.con (.str "pageup")) (.cons (.con (.str "pagedown")) (.cons (.con (.str "wheelup")) (.cons (.con (.str "wheeldown")) (.cons (.con (.str "click")) .nil))))))))))) .nil)
/-- _law_deeds -/
def b25 : Ss :=
  (.cons (.ret (.bin .add (.lc false (.nm 1) (.val (.slc false true (.call 24 .nil) (.con .non) (.con (.int 8)))) (.con (.bl true)) (.tup (.cons (.var 1) .nil))) (.lc false (.nm 2) (.rng (.cons (.ix (.var 0) (.con (.int 1))) .nil)) (.con (.bl true)) (.tup (.cons (.con (.str "click")) (.cons (.var 2) .nil)))))) .nil)
/-- _law_shapes -/
def b26 : Ss :=
  (.cons (.asg (.nm 0) (.lst .nil)) 
  (.cons (.for_ (.nm 1) (.rng (.cons (.con (.int 3)) (.cons (.con (.int 9)) .nil))) (.cons (.asg (.nm 0) (.bin .add (.var 0) (.lc false (.nm 2) (.val (.tup (.cons (.con (.int 2)) (.cons (.con (.int 3)) (.cons (.con (.int 4)) .nil))))) (.cmp .lt (.var 2) (.var 1)) (.tup (.cons (.var 1) (.cons (.var 2) .nil)))))) .nil)) 
  (.cons (.ret (.var 0)) .nil)))
/-- _law_way -/
def b27 : Ss :=
  (.cons (.asg (.tup (.cons (.nm 1) (.cons (.nm 2) .nil))) (.tup (.cons (.call 23 (.cons (.var 0) (.cons (.lst (.cons (.con (.str "least")) (.cons (.con (.str "page")) (.cons (.con (.str "middle")) (.cons (.con (.str "margin")) .nil))))) .nil))) (.cons (.call 23 (.cons (.var 0) (.cons (.lst (.cons (.con (.str "whole")) (.cons (.con (.str "less")) .nil))) .nil))) .nil)))) 
  (.cons (.asg (.tup (.cons (.nm 3) (.cons (.nm 4) .nil))) (.tup (.cons (.call 23 (.cons (.var 0) (.cons (.lst (.cons (.con (.str "lead")) (.cons (.con (.str "both")) (.cons (.con (.str "edge")) .nil)))) .nil))) (.cons (.call 23 (.cons (.var 0) (.cons (.lst (.cons (.con (.str "free")) (.cons (.con (.str "free")) (.cons (.con (.str "taken")) .nil)))) .nil))) .nil)))) 
  (.cons (.ret (.tup (.cons (.var 1) (.cons (.var 2) (.cons (.var 3) (.cons (.call 22 (.cons (.var 0) (.cons (.con (.int 2)) .nil))) (.cons (.var 4) (.cons (.call 23 (.cons (.var 0) (.cons (.lst (.cons (.con (.str "lead")) (.cons (.con (.str "window")) .nil))) .nil))) .nil)))))))) .nil)))
/-- _law_row -/
def b28 : Ss :=
  (.cons (.asg (.nm 3) (.lst .nil)) 
  (.cons (.asg (.nm 4) (.call 22 (.cons (.var 0) (.cons (.bin .add (.var 2) (.con (.int 1))) .nil)))) 
  (.cons (.whl 1000 (.cmp .lt (.prim .len (.cons (.var 3) .nil)) (.var 4)) (.cons (.asg (.nm 3) (.bin .add (.var 3) (.bin .mul (.lst (.cons (.call 23 (.cons (.var 0) (.cons (.call 25 (.cons (.var 1) .nil)) .nil))) .nil)) (.call 23 (.cons (.var 0) (.cons (.lst (.cons (.con (.int 1)) (.cons (.con (.int 1)) (.cons (.con (.int 1)) (.cons (.con (.int 2)) (.cons (.con (.int 3)) .nil)))))) .nil)))))) .nil)) 
  (.cons (.ret (.slc false true (.var 3) (.con .non) (.var 4))) .nil))))
/-- _law_turned -/
def b29 : Ss :=
  (.cons (.asg (.nm 2) (.dsp [(.str "up"), (.str "down"), (.str "home"), (.str "end"), (.str "pageup"), (.str "pagedown"), (.str "wheelup"), (.str "wheeldown")] [(.str "down"), (.str "up"), (.str "end"), (.str "home"), (.str "pagedown"), (.str "pageup"), (.str "wheeldown"), (.str "wheelup")])) 
  (.cons (.ret (.ite (.cmp .eq (.prim .len (.cons (.var 1) .nil)) (.con (.int 2))) (.tup (.cons (.con (.str "click")) (.cons (.bin .sub (.bin .sub (.ix (.var 0) (.con (.int 1))) (.con (.int 1))) (.ix (.var 1) (.con (.int 1)))) .nil))) (.tup (.cons (.ix (.var 2) (.ix (.var 1) (.con (.int 0)))) .nil)))) .nil))
/-- _law_follows -/
def b30 : Ss :=
  (.cons (.asg (.tup (.cons (.nm 7) (.cons (.nm 8) .nil))) (.call 20 (.cons (.var 1) (.cons (.var 2) (.cons (.var 3) .nil))))) 
  (.cons (.for_ (.nm 4) (.val (.tup (.cons (.con (.str "up")) (.cons (.con (.str "down")) (.cons (.con (.str "home")) (.cons (.con (.str "end")) .nil)))))) (.cons (.asg (.tup (.cons (.nm 9) (.cons (.nm 10) .nil))) (.call 20 (.cons (.var 1) (.cons (.var 2) (.cons (.bin .add (.var 3) (.lst (.cons (.tup (.cons (.var 4) .nil)) .nil))) .nil))))) 
    (.cons (.ite (.nt (.chain .le .lt (.var 9) (.var 10) (.bin .add (.var 9) (.ix (.var 2) (.con (.int 1)))))) (.cons (.ret (.con (.bl false))) .nil) .nil) 
    (.cons (.ite (.and_ (.cmp .eq (.ix (.var 1) (.con (.int 0))) (.con (.str "least"))) (.cons (.cmp .ne (.var 9) (.var 7)) (.cons (.cmp .notin (.var 10) (.tup (.cons (.var 9) (.cons (.bin .sub (.bin .add (.var 9) (.ix (.var 2) (.con (.int 1)))) (.con (.int 1))) .nil)))) .nil))) (.cons (.ret (.con (.bl false))) .nil) .nil) 
    (.cons (.ite (.and_ (.cmp .eq (.ix (.var 1) (.con (.int 0))) (.con (.str "page"))) (.cons (.cmp .ne (.var 9) (.var 7)) (.cons (.cmp .ne (.bin .mod (.var 9) (.ix (.var 2) (.con (.int 1)))) (.con (.int 0))) (.cons (.cmp .ne (.var 9) (.bin .sub (.ix (.var 2) (.con (.int 0))) (.ix (.var 2) (.con (.int 1))))) .nil)))) (.cons (.ret (.con (.bl false))) .nil) .nil) 
    (.cons (.ite (.and_ (.cmp .eq (.ix (.var 1) (.con (.int 0))) (.con (.str "middle"))) (.cons (.cmp .ne (.var 9) (.var 7)) (.cons (.cmp .ne (.bin .sub (.var 10) (.var 9)) (.bin .fdiv (.ix (.var 2) (.con (.int 1))) (.con (.int 2)))) (.cons (.cmp .notin (.var 9) (.tup (.cons (.con (.int 0)) (.cons (.bin .sub (.ix (.var 2) (.con (.int 0))) (.ix (.var 2) (.con (.int 1)))) .nil)))) .nil)))) (.cons (.ret (.con (.bl false))) .nil) .nil) 
    (.cons (.ite (.and_ (.cmp .eq (.ix (.var 1) (.con (.int 0))) (.con (.str "margin"))) (.cons (.cmp .gt (.ix (.var 2) (.con (.int 1))) (.con (.int 2))) (.cons (.or_ (.and_ (.cmp .eq (.var 9) (.var 10)) (.cons (.cmp .gt (.var 10) (.con (.int 0))) .nil)) (.cons (.and_ (.cmp .eq (.var 10) (.bin .sub (.bin .add (.var 9) (.ix (.var 2) (.con (.int 1)))) (.con (.int 1)))) (.cons (.cmp .lt (.var 10) (.bin .sub (.ix (.var 2) (.con (.int 0))) (.con (.int 1)))) .nil)) .nil)) .nil))) (.cons (.ret (.con (.bl false))) .nil) .nil) .nil))))))) 
  (.cons (.asg (.nm 5) (.bin .add (.slc false true (.var 1) (.con .non) (.con (.int 4))) (.tup (.cons (.con (.str "taken")) (.cons (.ix (.var 1) (.con (.int 5))) .nil))))) 
  (.cons (.asg (.nm 6) (.call 19 (.cons (.var 5) (.cons (.var 2) (.cons (.var 3) .nil))))) 
  (.cons (.ret (.cmp .eq (.lc false (.nm 11) (.val (.var 6)) (.nt (.chain .le .lt (.ix (.var 11) (.con (.int 0))) (.ix (.var 11) (.con (.int 1))) (.bin .add (.ix (.var 11) (.con (.int 0))) (.ix (.var 2) (.con (.int 1)))))) (.var 11)) (.lst .nil))) .nil)))))
/-- law -/
def b31 : Ss :=
  (.cons (.asg (.nm 1) (.call 21 (.cons (.var 0) .nil))) 
  (.cons (.asg (.tup (.cons (.nm 9) (.cons (.nm 10) .nil))) (.tup (.cons (.call 27 (.cons (.var 1) .nil)) (.cons (.call 23 (.cons (.var 1) (.cons (.call 26 .nil) .nil))) .nil)))) 
  (.cons (.asg (.nm 2) (.call 28 (.cons (.var 1) (.cons (.var 10) (.cons (.con (.int 30)) .nil))))) 
  (.cons (.asg (.nm 3) (.bin .add (.tup (.cons (.call 23 (.cons (.var 1) (.cons (.lst (.cons (.con (.str "least")) (.cons (.con (.str "margin")) .nil))) .nil))) .nil)) (.slc true false (.var 9) (.con (.int 1)) (.con .non)))) 
  (.cons (.asg (.nm 4) (.lc false (.nm 15) (.val (.var 2)) (.con (.bl true)) (.call 29 (.cons (.var 10) (.cons (.var 15) .nil))))) 
  (.cons (.asg (.tup (.cons (.nm 11) (.cons (.nm 12) .nil))) (.tup (.cons (.call 19 (.cons (.var 3) (.cons (.var 10) (.cons (.bin .add (.lst (.cons (.tup (.cons (.con (.str "home")) .nil)) .nil)) (.var 2)) .nil)))) (.cons (.call 19 (.cons (.var 3) (.cons (.var 10) (.cons (.bin .add (.lst (.cons (.tup (.cons (.con (.str "end")) .nil)) .nil)) (.var 4)) .nil)))) .nil)))) 
  (.cons (.for_ (.nm 5) (.rng (.cons (.con (.int 1)) (.cons (.prim .len (.cons (.var 11) .nil)) .nil))) (.cons (.asg (.tup (.cons (.nm 7) (.cons (.nm 16) .nil))) (.ix (.var 12) (.var 5))) 
    (.cons (.ite (.cmp .ne (.tup (.cons (.bin .sub (.bin .sub (.ix (.var 10) (.con (.int 0))) (.ix (.var 10) (.con (.int 1)))) (.var 7)) (.cons (.bin .sub (.bin .sub (.ix (.var 10) (.con (.int 0))) (.con (.int 1))) (.var 16)) .nil))) (.ix (.var 11) (.var 5))) (.cons (.ret (.con (.bl false))) .nil) .nil) .nil))) 
  (.cons (.ite (.or_ (.cmp .ne (.ix (.call 20 (.cons (.var 9) (.cons (.var 10) (.cons (.bin .add (.var 2) (.bin .mul (.lst (.cons (.tup (.cons (.con (.str "wheelup")) .nil)) .nil)) (.con (.int 8)))) .nil)))) (.con (.int 0))) (.con (.int 0))) (.cons (.cmp .ne (.ix (.call 20 (.cons (.var 9) (.cons (.var 10) (.cons (.bin .add (.var 2) (.bin .mul (.lst (.cons (.tup (.cons (.con (.str "wheeldown")) .nil)) .nil)) (.con (.int 8)))) .nil)))) (.con (.int 0))) (.bin .sub (.ix (.var 10) (.con (.int 0))) (.ix (.var 10) (.con (.int 1))))) .nil)) (.cons (.ret (.con (.bl false))) .nil) .nil) 
  (.cons (.asg (.nm 6) (.call 22 (.cons (.var 1) (.cons (.ix (.var 10) (.con (.int 1))) .nil)))) 
  (.cons (.asg (.nm 7) (.ix (.call 20 (.cons (.var 9) (.cons (.var 10) (.cons (.var 2) .nil)))) (.con (.int 0)))) 
  (.cons (.ite (.cmp .ne (.call 20 (.cons (.var 9) (.cons (.var 10) (.cons (.bin .add (.var 2) (.lst (.cons (.tup (.cons (.con (.str "click")) (.cons (.var 6) .nil))) .nil))) .nil)))) (.tup (.cons (.var 7) (.cons (.bin .add (.var 7) (.var 6)) .nil)))) (.cons (.ret (.con (.bl false))) .nil) .nil) 
  (.cons (.asg (.tup (.cons (.nm 13) (.cons (.nm 14) .nil))) (.tup (.cons (.bin .add (.tup (.cons (.con (.str "least")) .nil)) (.slc true false (.var 9) (.con (.int 1)) (.con .non))) (.cons (.bin .add (.tup (.cons (.con (.str "margin")) .nil)) (.slc true false (.var 9) (.con (.int 1)) (.con .non))) .nil)))) 
  (.cons (.asg (.nm 8) (.lc false (.nm 17) (.val (.tup (.cons (.var 13) (.cons (.var 14) .nil)))) (.con (.bl true)) (.call 19 (.cons (.var 17) (.cons (.var 10) (.cons (.var 2) .nil)))))) 
  (.cons (.ite (.and_ (.cmp .eq (.ix (.var 10) (.con (.int 1))) (.con (.int 2))) (.cons (.cmp .ne (.ix (.var 8) (.con (.int 0))) (.ix (.var 8) (.con (.int 1)))) .nil)) (.cons (.ret (.con (.bl false))) .nil) .nil) 
  (.cons (.ret (.call 30 (.cons (.var 1) (.cons (.var 9) (.cons (.var 10) (.cons (.var 2) .nil)))))) .nil)))))))))))))))
def Pr : List FDef := [⟨3, 3, b0⟩, ⟨1, 1, b1⟩, ⟨1, 1, b2⟩, ⟨2, 2, b3⟩, ⟨2, 3, b4⟩, ⟨2, 2, b5⟩, ⟨3, 3, b6⟩, ⟨2, 3, b7⟩, ⟨3, 3, b8⟩, ⟨3, 6, b9⟩, ⟨3, 9, b10⟩, ⟨4, 6, b11⟩, ⟨4, 11, b12⟩, ⟨4, 5, b13⟩, ⟨4, 6, b14⟩, ⟨2, 2, b15⟩, ⟨1, 1, b16⟩, ⟨1, 1, b17⟩, ⟨3, 5, b18⟩, ⟨3, 3, b19⟩, ⟨3, 3, b20⟩, ⟨1, 1, b21⟩, ⟨2, 6, b22⟩, ⟨2, 2, b23⟩, ⟨0, 0, b24⟩, ⟨1, 3, b25⟩, ⟨0, 3, b26⟩, ⟨1, 5, b27⟩, ⟨3, 5, b28⟩, ⟨2, 3, b29⟩, ⟨4, 12, b30⟩, ⟨1, 18, b31⟩]
def tab0 : List (Str × GK) := [("is_int", .fn 0), ("is_form", .fn 1), ("check_shape", .fn 2), ("is_one", .fn 3), ("are_deeds", .fn 4), ("check_row", .fn 5), ("bounded", .fn 6), ("place_of", .fn 7), ("nearest", .fn 8), ("wished", .fn 9), ("followed", .fn 10), ("arrow", .fn 11), ("paged", .fn 12), ("wheeled", .fn 13), ("step", .fn 14), ("is_word", .fn 15), ("is_way", .fn 16), ("check_way", .fn 17), ("states_of", .fn 18), ("states_along", .fn 19), ("state_after", .fn 20), ("_law_start", .fn 21), ("_law_draw", .fn 22), ("_law_pick", .fn 23), ("_law_kinds", .fn 24), ("_law_deeds", .fn 25), ("_law_shapes", .fn 26), ("_law_way", .fn 27), ("_law_row", .fn 28), ("_law_turned", .fn 29)]
def tab1 : List (Str × GK) := [("_law_follows", .fn 30), ("law", .fn 31), ("BACKS", .cst c_BACKS), ("FOLLOWS", .cst c_FOLLOWS), ("KINDS", .cst c_KINDS), ("MOST_ROW", .cst c_MOST_ROW), ("PAGED", .cst c_PAGED), ("START", .cst c_START), ("STEPS", .cst c_STEPS), ("WHEELS", .cst c_WHEELS), ("BadWay", .cls 1), ("BadDeeds", .cls 2), ("BadNumber", .cls 3), ("all", .free), ("bool", .free), ("int", .free), ("isinstance", .free), ("len", .free), ("list", .free), ("max", .free), ("min", .free), ("range", .free), ("str", .free), ("tuple", .free)]
def tab : List (Str × GK) := tab0 ++ tab1
def cn : List Str := ["WindowError", "BadWay", "BadDeeds", "BadNumber"]
def sub (a b : Nat) : Bool := a == b
def st (i : Nat) : Stmt := PySem.Challenge.pw_leadwindows_k19_whole_mirrored.main.body.getD i (.Pass ⟨0, 0, 0, 0⟩)
def d0 : DefI := ⟨"is_int", st 5, ["value", "low", "high"], ["value", "low", "high"]⟩
def d1 : DefI := ⟨"is_form", st 9, ["value"], ["value"]⟩
def d2 : DefI := ⟨"check_shape", st 10, ["value"], ["value"]⟩
def d3 : DefI := ⟨"is_one", st 11, ["shape", "value"], ["shape", "value"]⟩
def d4 : DefI := ⟨"are_deeds", st 12, ["shape", "value", "one"], ["shape", "value"]⟩
def d5 : DefI := ⟨"check_row", st 13, ["shape", "value"], ["shape", "value"]⟩
def d6 : DefI := ⟨"bounded", st 16, ["value", "low", "high"], ["value", "low", "high"]⟩
def d7 : DefI := ⟨"place_of", st 17, ["shape", "state", "place"], ["shape", "state"]⟩
def d8 : DefI := ⟨"nearest", st 18, ["shape", "top", "lead"], ["shape", "top", "lead"]⟩
def d9 : DefI := ⟨"wished", st 19, ["way", "shape", "lead", "more", "rows", "height"], ["way", "shape", "lead"]⟩
def d10 : DefI := ⟨"followed", st 20, ["way", "shape", "state", "low", "high", "top", "rows", "height", "lead"], ["way", "shape", "state"]⟩
def d11 : DefI := ⟨"arrow", st 21, ["way", "shape", "state", "more", "lead", "top"], ["way", "shape", "state", "more"]⟩
def d12 : DefI := ⟨"paged", st 22, ["way", "shape", "state", "more", "far", "edge", "later", "rows", "height", "top", "lead"], ["way", "shape", "state", "more"]⟩
def d13 : DefI := ⟨"wheeled", st 23, ["way", "shape", "state", "more", "top"], ["way", "shape", "state", "more"]⟩
def d14 : DefI := ⟨"step", st 24, ["way", "shape", "state", "deed", "kind", "more"], ["way", "shape", "state", "deed"]⟩
def d15 : DefI := ⟨"is_word", st 31, ["value", "words"], ["value", "words"]⟩
def d16 : DefI := ⟨"is_way", st 32, ["value"], ["value"]⟩
def d17 : DefI := ⟨"check_way", st 33, ["value"], ["value"]⟩
def d18 : DefI := ⟨"states_of", st 35, ["way", "shape", "row", "found", "deed"], ["way", "shape", "row"]⟩
def d19 : DefI := ⟨"states_along", st 36, ["way", "shape", "row"], ["way", "shape", "row"]⟩
def d20 : DefI := ⟨"state_after", st 37, ["way", "shape", "row"], ["way", "shape", "row"]⟩
def d21 : DefI := ⟨"_law_start", st 39, ["_law_script"], ["_law_script"]⟩
def d22 : DefI := ⟨"_law_draw", st 40, ["_law_draws", "_law_limit", "_law_numbers", "_law_at", "_law_cell", "_law_mixed"], ["_law_draws", "_law_limit"]⟩
def d23 : DefI := ⟨"_law_pick", st 41, ["_law_draws", "_law_choices"], ["_law_draws", "_law_choices"]⟩
def d24 : DefI := ⟨"_law_kinds", st 42, [], []⟩
def d25 : DefI := ⟨"_law_deeds", st 43, ["_law_shape", "_law_kind", "_law_place"], ["_law_shape"]⟩
def d26 : DefI := ⟨"_law_shapes", st 44, ["_law_found", "_law_total", "_law_height"], []⟩
def d27 : DefI := ⟨"_law_way", st 45, ["_law_draws", "_law_follow", "_law_step_here", "_law_paged_here", "_law_wheel"], ["_law_draws"]⟩
def d28 : DefI := ⟨"_law_row", st 46, ["_law_draws", "_law_shape", "_law_longest", "_law_found", "_law_most"], ["_law_draws", "_law_shape", "_law_longest"]⟩
def d29 : DefI := ⟨"_law_turned", st 47, ["_law_shape", "_law_deed", "_law_swap"], ["_law_shape", "_law_deed"]⟩
def d30 : DefI := ⟨"_law_follows", st 48, ["_law_draws", "_law_way_here", "_law_shape", "_law_row_here", "_law_kind", "_law_taken", "_law_states", "_law_top", "_law_lead", "_law_later", "_law_other", "_law_state"], ["_law_draws", "_law_way_here", "_law_shape", "_law_row_here"]⟩
def d31 : DefI := ⟨"law", st 49, ["_law_script", "_law_draws", "_law_row_here", "_law_even", "_law_other", "_law_k", "_law_place", "_law_top", "_law_both", "_law_way_here", "_law_shape", "_law_states", "_law_mirrored", "_law_flat", "_law_wide", "_law_deed", "_law_lead", "_law_own"], ["_law_script"]⟩
def ds : List DefI := [d0, d1, d2, d3, d4, d5, d6, d7, d8, d9, d10, d11, d12, d13, d14, d15, d16, d17, d18, d19, d20, d21, d22, d23, d24, d25, d26, d27, d28, d29, d30, d31]
def T : Txt := ⟨tab, cn, ds, Pr, sub⟩
theorem x0 : DefB T d0 ⟨3, 3, b0⟩ := ⟨fun _ _ _ _ _ _ us hl => match us, hl with | [_, _, _], _ => rfl, by kernel_rfl, by kernel_rfl, by kernel_rfl⟩
theorem x1 : DefB T d1 ⟨1, 1, b1⟩ := ⟨fun _ _ _ _ _ _ us hl => match us, hl with | [_], _ => rfl, by kernel_rfl, by kernel_rfl, by kernel_rfl⟩
theorem x2 : DefB T d2 ⟨1, 1, b2⟩ := ⟨fun _ _ _ _ _ _ us hl => match us, hl with | [_], _ => rfl, by kernel_rfl, by kernel_rfl, by kernel_rfl⟩
theorem x3 : DefB T d3 ⟨2, 2, b3⟩ := ⟨fun _ _ _ _ _ _ us hl => match us, hl with | [_, _], _ => rfl, by kernel_rfl, by kernel_rfl, by kernel_rfl⟩
theorem x4 : DefB T d4 ⟨2, 3, b4⟩ := ⟨fun _ _ _ _ _ _ us hl => match us, hl with | [_, _], _ => rfl, by kernel_rfl, by kernel_rfl, by kernel_rfl⟩
theorem x5 : DefB T d5 ⟨2, 2, b5⟩ := ⟨fun _ _ _ _ _ _ us hl => match us, hl with | [_, _], _ => rfl, by kernel_rfl, by kernel_rfl, by kernel_rfl⟩
theorem x6 : DefB T d6 ⟨3, 3, b6⟩ := ⟨fun _ _ _ _ _ _ us hl => match us, hl with | [_, _, _], _ => rfl, by kernel_rfl, by kernel_rfl, by kernel_rfl⟩
theorem x7 : DefB T d7 ⟨2, 3, b7⟩ := ⟨fun _ _ _ _ _ _ us hl => match us, hl with | [_, _], _ => rfl, by kernel_rfl, by kernel_rfl, by kernel_rfl⟩
theorem x8 : DefB T d8 ⟨3, 3, b8⟩ := ⟨fun _ _ _ _ _ _ us hl => match us, hl with | [_, _, _], _ => rfl, by kernel_rfl, by kernel_rfl, by kernel_rfl⟩
theorem x9 : DefB T d9 ⟨3, 6, b9⟩ := ⟨fun _ _ _ _ _ _ us hl => match us, hl with | [_, _, _], _ => rfl, by kernel_rfl, by kernel_rfl, by kernel_rfl⟩
theorem x10 : DefB T d10 ⟨3, 9, b10⟩ := ⟨fun _ _ _ _ _ _ us hl => match us, hl with | [_, _, _], _ => rfl, by kernel_rfl, by kernel_rfl, by kernel_rfl⟩
theorem x11 : DefB T d11 ⟨4, 6, b11⟩ := ⟨fun _ _ _ _ _ _ us hl => match us, hl with | [_, _, _, _], _ => rfl, by kernel_rfl, by kernel_rfl, by kernel_rfl⟩
theorem x12 : DefB T d12 ⟨4, 11, b12⟩ := ⟨fun _ _ _ _ _ _ us hl => match us, hl with | [_, _, _, _], _ => rfl, by kernel_rfl, by kernel_rfl, by kernel_rfl⟩
theorem x13 : DefB T d13 ⟨4, 5, b13⟩ := ⟨fun _ _ _ _ _ _ us hl => match us, hl with | [_, _, _, _], _ => rfl, by kernel_rfl, by kernel_rfl, by kernel_rfl⟩
theorem x14 : DefB T d14 ⟨4, 6, b14⟩ := ⟨fun _ _ _ _ _ _ us hl => match us, hl with | [_, _, _, _], _ => rfl, by kernel_rfl, by kernel_rfl, by kernel_rfl⟩
theorem x15 : DefB T d15 ⟨2, 2, b15⟩ := ⟨fun _ _ _ _ _ _ us hl => match us, hl with | [_, _], _ => rfl, by kernel_rfl, by kernel_rfl, by kernel_rfl⟩
theorem x16 : DefB T d16 ⟨1, 1, b16⟩ := ⟨fun _ _ _ _ _ _ us hl => match us, hl with | [_], _ => rfl, by kernel_rfl, by kernel_rfl, by kernel_rfl⟩
theorem x17 : DefB T d17 ⟨1, 1, b17⟩ := ⟨fun _ _ _ _ _ _ us hl => match us, hl with | [_], _ => rfl, by kernel_rfl, by kernel_rfl, by kernel_rfl⟩
theorem x18 : DefB T d18 ⟨3, 5, b18⟩ := ⟨fun _ _ _ _ _ _ us hl => match us, hl with | [_, _, _], _ => rfl, by kernel_rfl, by kernel_rfl, by kernel_rfl⟩
theorem x19 : DefB T d19 ⟨3, 3, b19⟩ := ⟨fun _ _ _ _ _ _ us hl => match us, hl with | [_, _, _], _ => rfl, by kernel_rfl, by kernel_rfl, by kernel_rfl⟩
theorem x20 : DefB T d20 ⟨3, 3, b20⟩ := ⟨fun _ _ _ _ _ _ us hl => match us, hl with | [_, _, _], _ => rfl, by kernel_rfl, by kernel_rfl, by kernel_rfl⟩
theorem x21 : DefB T d21 ⟨1, 1, b21⟩ := ⟨fun _ _ _ _ _ _ us hl => match us, hl with | [_], _ => rfl, by kernel_rfl, by kernel_rfl, by kernel_rfl⟩
theorem x22 : DefB T d22 ⟨2, 6, b22⟩ := ⟨fun _ _ _ _ _ _ us hl => match us, hl with | [_, _], _ => rfl, by kernel_rfl, by kernel_rfl, by kernel_rfl⟩
theorem x23 : DefB T d23 ⟨2, 2, b23⟩ := ⟨fun _ _ _ _ _ _ us hl => match us, hl with | [_, _], _ => rfl, by kernel_rfl, by kernel_rfl, by kernel_rfl⟩
theorem x24 : DefB T d24 ⟨0, 0, b24⟩ := ⟨fun _ _ _ _ _ _ us hl => match us, hl with | [], _ => rfl, by kernel_rfl, by kernel_rfl, by kernel_rfl⟩
theorem x25 : DefB T d25 ⟨1, 3, b25⟩ := ⟨fun _ _ _ _ _ _ us hl => match us, hl with | [_], _ => rfl, by kernel_rfl, by kernel_rfl, by kernel_rfl⟩
theorem x26 : DefB T d26 ⟨0, 3, b26⟩ := ⟨fun _ _ _ _ _ _ us hl => match us, hl with | [], _ => rfl, by kernel_rfl, by kernel_rfl, by kernel_rfl⟩
theorem x27 : DefB T d27 ⟨1, 5, b27⟩ := ⟨fun _ _ _ _ _ _ us hl => match us, hl with | [_], _ => rfl, by kernel_rfl, by kernel_rfl, by kernel_rfl⟩
theorem x28 : DefB T d28 ⟨3, 5, b28⟩ := ⟨fun _ _ _ _ _ _ us hl => match us, hl with | [_, _, _], _ => rfl, by kernel_rfl, by kernel_rfl, by kernel_rfl⟩
theorem x29 : DefB T d29 ⟨2, 3, b29⟩ := ⟨fun _ _ _ _ _ _ us hl => match us, hl with | [_, _], _ => rfl, by kernel_rfl, by kernel_rfl, by kernel_rfl⟩
theorem x30 : DefB T d30 ⟨4, 12, b30⟩ := ⟨fun _ _ _ _ _ _ us hl => match us, hl with | [_, _, _, _], _ => rfl, by kernel_rfl, by kernel_rfl, by kernel_rfl⟩
theorem x31 : DefB T d31 ⟨1, 18, b31⟩ := ⟨fun _ _ _ _ _ _ us hl => match us, hl with | [_], _ => rfl, by kernel_rfl, by kernel_rfl, by kernel_rfl⟩
theorem u_is_int (k : Nat) (a0 a1 a2 : D) (w : Wd) : run Pr sub (k + 1) 0 [a0, a1, a2] w = (evSs (run Pr sub k) sub b0 [some a0, some a1, some a2] w).res := rfl
theorem u_is_form (k : Nat) (a0 : D) (w : Wd) : run Pr sub (k + 1) 1 [a0] w = (evSs (run Pr sub k) sub b1 [some a0] w).res := rfl
theorem u_check_shape (k : Nat) (a0 : D) (w : Wd) : run Pr sub (k + 1) 2 [a0] w = (evSs (run Pr sub k) sub b2 [some a0] w).res := rfl
theorem u_is_one (k : Nat) (a0 a1 : D) (w : Wd) : run Pr sub (k + 1) 3 [a0, a1] w = (evSs (run Pr sub k) sub b3 [some a0, some a1] w).res := rfl
theorem u_are_deeds (k : Nat) (a0 a1 : D) (w : Wd) : run Pr sub (k + 1) 4 [a0, a1] w = (evSs (run Pr sub k) sub b4 [some a0, some a1, none] w).res := rfl
theorem u_check_row (k : Nat) (a0 a1 : D) (w : Wd) : run Pr sub (k + 1) 5 [a0, a1] w = (evSs (run Pr sub k) sub b5 [some a0, some a1] w).res := rfl
theorem u_bounded (k : Nat) (a0 a1 a2 : D) (w : Wd) : run Pr sub (k + 1) 6 [a0, a1, a2] w = (evSs (run Pr sub k) sub b6 [some a0, some a1, some a2] w).res := rfl
theorem u_place_of (k : Nat) (a0 a1 : D) (w : Wd) : run Pr sub (k + 1) 7 [a0, a1] w = (evSs (run Pr sub k) sub b7 [some a0, some a1, none] w).res := rfl
theorem u_nearest (k : Nat) (a0 a1 a2 : D) (w : Wd) : run Pr sub (k + 1) 8 [a0, a1, a2] w = (evSs (run Pr sub k) sub b8 [some a0, some a1, some a2] w).res := rfl
theorem u_wished (k : Nat) (a0 a1 a2 : D) (w : Wd) : run Pr sub (k + 1) 9 [a0, a1, a2] w = (evSs (run Pr sub k) sub b9 [some a0, some a1, some a2, none, none, none] w).res := rfl
theorem u_followed (k : Nat) (a0 a1 a2 : D) (w : Wd) : run Pr sub (k + 1) 10 [a0, a1, a2] w = (evSs (run Pr sub k) sub b10 [some a0, some a1, some a2, none, none, none, none, none, none] w).res := rfl
theorem u_arrow (k : Nat) (a0 a1 a2 a3 : D) (w : Wd) : run Pr sub (k + 1) 11 [a0, a1, a2, a3] w = (evSs (run Pr sub k) sub b11 [some a0, some a1, some a2, some a3, none, none] w).res := rfl
theorem u_paged (k : Nat) (a0 a1 a2 a3 : D) (w : Wd) : run Pr sub (k + 1) 12 [a0, a1, a2, a3] w = (evSs (run Pr sub k) sub b12 [some a0, some a1, some a2, some a3, none, none, none, none, none, none, none] w).res := rfl
theorem u_wheeled (k : Nat) (a0 a1 a2 a3 : D) (w : Wd) : run Pr sub (k + 1) 13 [a0, a1, a2, a3] w = (evSs (run Pr sub k) sub b13 [some a0, some a1, some a2, some a3, none] w).res := rfl
theorem u_step (k : Nat) (a0 a1 a2 a3 : D) (w : Wd) : run Pr sub (k + 1) 14 [a0, a1, a2, a3] w = (evSs (run Pr sub k) sub b14 [some a0, some a1, some a2, some a3, none, none] w).res := rfl
theorem u_is_word (k : Nat) (a0 a1 : D) (w : Wd) : run Pr sub (k + 1) 15 [a0, a1] w = (evSs (run Pr sub k) sub b15 [some a0, some a1] w).res := rfl
theorem u_is_way (k : Nat) (a0 : D) (w : Wd) : run Pr sub (k + 1) 16 [a0] w = (evSs (run Pr sub k) sub b16 [some a0] w).res := rfl
theorem u_check_way (k : Nat) (a0 : D) (w : Wd) : run Pr sub (k + 1) 17 [a0] w = (evSs (run Pr sub k) sub b17 [some a0] w).res := rfl
theorem u_states_of (k : Nat) (a0 a1 a2 : D) (w : Wd) : run Pr sub (k + 1) 18 [a0, a1, a2] w = (evSs (run Pr sub k) sub b18 [some a0, some a1, some a2, none, none] w).res := rfl
theorem u_states_along (k : Nat) (a0 a1 a2 : D) (w : Wd) : run Pr sub (k + 1) 19 [a0, a1, a2] w = (evSs (run Pr sub k) sub b19 [some a0, some a1, some a2] w).res := rfl
theorem u_state_after (k : Nat) (a0 a1 a2 : D) (w : Wd) : run Pr sub (k + 1) 20 [a0, a1, a2] w = (evSs (run Pr sub k) sub b20 [some a0, some a1, some a2] w).res := rfl
theorem u__law_start (k : Nat) (a0 : D) (w : Wd) : run Pr sub (k + 1) 21 [a0] w = (evSs (run Pr sub k) sub b21 [some a0] w).res := rfl
theorem u__law_draw (k : Nat) (a0 a1 : D) (w : Wd) : run Pr sub (k + 1) 22 [a0, a1] w = (evSs (run Pr sub k) sub b22 [some a0, some a1, none, none, none, none] w).res := rfl
theorem u__law_pick (k : Nat) (a0 a1 : D) (w : Wd) : run Pr sub (k + 1) 23 [a0, a1] w = (evSs (run Pr sub k) sub b23 [some a0, some a1] w).res := rfl
theorem u__law_kinds (k : Nat) (w : Wd) : run Pr sub (k + 1) 24 [] w = (evSs (run Pr sub k) sub b24 [] w).res := rfl
theorem u__law_deeds (k : Nat) (a0 : D) (w : Wd) : run Pr sub (k + 1) 25 [a0] w = (evSs (run Pr sub k) sub b25 [some a0, none, none] w).res := rfl
theorem u__law_shapes (k : Nat) (w : Wd) : run Pr sub (k + 1) 26 [] w = (evSs (run Pr sub k) sub b26 [none, none, none] w).res := rfl
theorem u__law_way (k : Nat) (a0 : D) (w : Wd) : run Pr sub (k + 1) 27 [a0] w = (evSs (run Pr sub k) sub b27 [some a0, none, none, none, none] w).res := rfl
theorem u__law_row (k : Nat) (a0 a1 a2 : D) (w : Wd) : run Pr sub (k + 1) 28 [a0, a1, a2] w = (evSs (run Pr sub k) sub b28 [some a0, some a1, some a2, none, none] w).res := rfl
theorem u__law_turned (k : Nat) (a0 a1 : D) (w : Wd) : run Pr sub (k + 1) 29 [a0, a1] w = (evSs (run Pr sub k) sub b29 [some a0, some a1, none] w).res := rfl
theorem u__law_follows (k : Nat) (a0 a1 a2 a3 : D) (w : Wd) : run Pr sub (k + 1) 30 [a0, a1, a2, a3] w = (evSs (run Pr sub k) sub b30 [some a0, some a1, some a2, some a3, none, none, none, none, none, none, none, none] w).res := rfl
theorem u_law (k : Nat) (a0 : D) (w : Wd) : run Pr sub (k + 1) 31 [a0] w = (evSs (run Pr sub k) sub b31 [some a0, none, none, none, none, none, none, none, none, none, none, none, none, none, none, none, none, none] w).res := rfl
theorem defsB : DefsB T T.ds T.Pr := .cons x0 (.cons x1 (.cons x2 (.cons x3 (.cons x4 (.cons x5 (.cons x6 (.cons x7 (.cons x8 (.cons x9 (.cons x10 (.cons x11 (.cons x12 (.cons x13 (.cons x14 (.cons x15 (.cons x16 (.cons x17 (.cons x18 (.cons x19 (.cons x20 (.cons x21 (.cons x22 (.cons x23 (.cons x24 (.cons x25 (.cons x26 (.cons x27 (.cons x28 (.cons x29 (.cons x30 (.cons x31 (.nil))))))))))))))))))))))))))))))))
end L19
namespace L19
open PySem Ir
/-! ## the program's steps -/
abbrev tp2 (a b : Int) : D := .tup [.int a, .int b]
abbrev wayD (f s p : Str) (m : Int) (v b : Str) : D := .tup [.str f, .str s, .str p, .int m, .str v, .str b]
def boundedT (v lo hi : Int) : Int := max lo (min hi v)
@[simp] theorem s_bounded (k : Nat) (v lo hi : Int) (w : Wd) : run Pr sub (k+1) 6 [.int v, .int lo, .int hi] w = .ok (.int (boundedT v lo hi)) w := by
  rw [u_bounded]
  simp [b6, boundedT]
def placeT (h t l : Int) : Int := if 0 ≤ l - t ∧ l - t < h then l - t else -1
@[simp] theorem s_place_of (k : Nat) (r h t l : Int) (w : Wd) : run Pr sub (k+1) 7 [tp2 r h, tp2 t l] w = .ok (.int (placeT h t l)) w := by
  rw [u_place_of]
  simp [b7, placeT]
@[simp] theorem s_nearest (k : Nat) (r h t l : Int) (w : Wd) : run Pr sub (k+2) 8 [tp2 r h, .int t, .int l] w = .ok (.int (boundedT l t (t + h - 1))) w := by
  rw [u_nearest]
  simp [b8]
def moreT (f : Str) (h : Int) : Int := if f = "margin" ∧ 2 < h then 1 else 0
@[simp] theorem s_wished (k : Nat) (f s p : Str) (m : Int) (v b : Str) (r h l : Int) (w : Wd) : run Pr sub (k+1) 9 [wayD f s p m v b, tp2 r h, .int l] w = .ok (tp2 (max 0 (l - moreT f h)) (min (r - 1) (l + moreT f h))) w := by
  rw [u_wished]
  by_cases hf : f = "margin"
  · by_cases hh : 2 < h <;> simp [b9, moreT, hf, hh]
  · simp [b9, moreT, hf]
def topT (f : Str) (r h t l : Int) : Int :=
  if f = "least" ∨ f = "margin" then max (min t (max 0 (l - moreT f h))) (min (r - 1) (l + moreT f h) - h + 1)
  else if 0 ≤ placeT h t l then t
  else if f = "page" then min (l / h * h) (r - h)
  else boundedT (l - h / 2) 0 (r - h)
theorem cmul_small {i j : Int} (h : -1000 < j ∧ j < 1000) : cmul i j = true := by
  unfold cmul
  simp only [Bool.or_eq_true, Bool.and_eq_true, decide_eq_true_eq]
  omega
theorem s_followed (k : Nat) (f s p : Str) (m : Int) (v b : Str) (r h t l : Int) (w : Wd) (h0 : 0 < h) (h1 : h < 1000) : run Pr sub (k+2) 10 [wayD f s p m v b, tp2 r h, tp2 t l] w = .ok (tp2 (topT f r h t l) l) w := by
  rw [u_followed]
  have hm : cmul (l / h) h = true := cmul_small (by omega)
  have hh : h < 1073741824 := by omega
  by_cases c1 : f = "least" ∨ f = "margin"
  · simp [b10, topT, c1]
  · by_cases c2 : 0 ≤ placeT h t l
    · simp [b10, topT, c1, c2]
    · by_cases c3 : f = "page"
      · subst c3
        simp [b10, topT, c2, bin_mul, bin_fdiv, hm, hh, h0]
      · simp [b10, topT, c1, c2, c3, bin_mul, bin_fdiv, hm, hh, h0]

def arrowL (m : Int) (b : Str) (r h t l more : Int) : Int :=
  if 0 ≤ (if b = "window" then boundedT l t (t + h - 1) else l) + more ∧ (if b = "window" then boundedT l t (t + h - 1) else l) + more < r then (if b = "window" then boundedT l t (t + h - 1) else l) + more
  else if m = 1 then ((if b = "window" then boundedT l t (t + h - 1) else l) + more) % r
  else (if b = "window" then boundedT l t (t + h - 1) else l) + more - more
theorem s_arrow (k : Nat) (f s p : Str) (m : Int) (v b : Str) (r h t l more : Int) (w : Wd) (h0 : 0 < h) (h1 : h < 1000) (hr : 0 < r) : run Pr sub (k+3) 11 [wayD f s p m v b, tp2 r h, tp2 t l, .int more] w = .ok (tp2 (topT f r h t (arrowL m b r h t l more)) (arrowL m b r h t l more)) w := by
  rw [u_arrow]
  have fo := s_followed k
  by_cases c1 : b = "window"
  · by_cases c2 : 0 ≤ boundedT l t (t + h - 1) + more ∧ boundedT l t (t + h - 1) + more < r
    · simp [b11, arrowL, c1, c2, fo, h0, h1]
    · by_cases c3 : m = 1
      · by_cases c4 : 0 ≤ boundedT l t (t + h - 1) + more
        · have c5 : ¬ boundedT l t (t + h - 1) + more < r := fun z => c2 ⟨c4, z⟩
          simp [b11, arrowL, c1, c2, c3, c4, c5, fo, h0, h1, bin_mod, hr]
        · simp [b11, arrowL, c1, c2, c3, c4, fo, h0, h1, bin_mod, hr]
      · by_cases c4 : 0 ≤ boundedT l t (t + h - 1) + more
        · have c5 : ¬ boundedT l t (t + h - 1) + more < r := fun z => c2 ⟨c4, z⟩
          simp [b11, arrowL, c1, c2, c3, c4, c5, fo, h0, h1, bin_mod, hr]
        · simp [b11, arrowL, c1, c2, c3, c4, fo, h0, h1, bin_mod, hr]
  · by_cases c2 : 0 ≤ l + more ∧ l + more < r
    · simp [b11, arrowL, c1, c2, fo, h0, h1]
    · by_cases c3 : m = 1
      · by_cases c4 : 0 ≤ l + more
        · have c5 : ¬ l + more < r := fun z => c2 ⟨c4, z⟩
          simp [b11, arrowL, c1, c2, c3, c4, c5, fo, h0, h1, bin_mod, hr]
        · simp [b11, arrowL, c1, c2, c3, c4, fo, h0, h1, bin_mod, hr]
      · by_cases c4 : 0 ≤ l + more
        · have c5 : ¬ l + more < r := fun z => c2 ⟨c4, z⟩
          simp [b11, arrowL, c1, c2, c3, c4, c5, fo, h0, h1, bin_mod, hr]
        · simp [b11, arrowL, c1, c2, c3, c4, fo, h0, h1, bin_mod, hr]

def farT (s : Str) (h more : Int) : Int := more * (if s = "whole" then h else h - 1)
def edgeT (h t more : Int) : Int := if more < 0 then t else t + h - 1
/-- where a page step leads, ahead of the follow -/
def pageT (s p : Str) (r h t l more : Int) : Int × Int :=
  if p = "both" then
    if boundedT (t + farT s h more) 0 (r - h) = t then (t, if more < 0 then 0 else r - 1)
    else (boundedT (t + farT s h more) 0 (r - h), boundedT (l + boundedT (t + farT s h more) 0 (r - h) - t) 0 (r - 1))
  else if p = "edge" ∧ 0 ≤ placeT h t l ∧ ¬ l = edgeT h t more then (t, edgeT h t more)
  else (t, boundedT (l + farT s h more) 0 (r - 1))
theorem s_paged (k : Nat) (f s p : Str) (m : Int) (v b : Str) (r h t l more : Int) (w : Wd) (h0 : 0 < h) (h1 : h < 1000) (hm : more = 1 ∨ more = -1) : run Pr sub (k+3) 12 [wayD f s p m v b, tp2 r h, tp2 t l, .int more] w = .ok (tp2 (topT f r h (pageT s p r h t l more).1 (pageT s p r h t l more).2) (pageT s p r h t l more).2) w := by
  rw [u_paged]
  have fo := s_followed k
  have cm : ∀ j : Int, cmul more j = true := fun j => by
    unfold cmul
    rcases hm with rfl | rfl <;> rfl
  by_cases c0 : s = "whole"
  all_goals
    by_cases c1 : p = "both"
    · by_cases c2 : boundedT (t + farT s h more) 0 (r - h) = t
      · have c3 := c2
        simp only [farT, c0, if_true, if_false] at c3
        simp [b12, pageT, farT, c0, c1, c3, bin_mul, cm, fo, h0, h1]
        try (split <;> rfl)
      · have c3 := c2
        simp only [farT, c0, if_true, if_false] at c3
        simp [b12, pageT, farT, c0, c1, c3, bin_mul, cm, fo, h0, h1]
    · by_cases c2 : p = "edge" ∧ 0 ≤ placeT h t l ∧ ¬ l = edgeT h t more
      · have c4 := c2.2.1
        have c5 := c2.2.2
        simp only [edgeT] at c5
        simp [b12, pageT, farT, edgeT, c0, c2.1, c4, c5, bin_mul, cm, fo, h0, h1]
      · have c3 := c2
        simp only [edgeT] at c3
        by_cases c4 : p = "edge"
        · by_cases c5 : 0 ≤ placeT h t l
          · have c6 : l = if more < 0 then t else t + h - 1 := by
              refine Decidable.byContradiction fun z => c3 ⟨c4, c5, z⟩
            simp [b12, pageT, farT, edgeT, c0, c4, c5, bin_mul, cm, fo, h0, h1, ← c6]
          · simp [b12, pageT, farT, edgeT, c0, c4, c5, bin_mul, cm, fo, h0, h1]
        · simp [b12, pageT, farT, edgeT, c0, c1, c4, bin_mul, cm, fo, h0, h1]
def wheelT (v : Str) (r h t l more : Int) : Int × Int := (boundedT (t + more) 0 (r - h), if v = "taken" then boundedT l (boundedT (t + more) 0 (r - h)) (boundedT (t + more) 0 (r - h) + h - 1) else l)
theorem s_wheeled (k : Nat) (f s p : Str) (m : Int) (v b : Str) (r h t l more : Int) (w : Wd) : run Pr sub (k+3) 13 [wayD f s p m v b, tp2 r h, tp2 t l, .int more] w = .ok (tp2 (wheelT v r h t l more).1 (wheelT v r h t l more).2) w := by
  rw [u_wheeled]
  by_cases c : v = "taken" <;> simp [b13, wheelT, c]
/-- a step, by the deed's kind -/
def stepT (f s p : Str) (m : Int) (v b : Str) (r h t l : Int) : D → Int × Int
  | .tup [.str x] =>
    if x = "up" then (topT f r h t (arrowL m b r h t l (-1)), arrowL m b r h t l (-1))
    else if x = "down" then (topT f r h t (arrowL m b r h t l 1), arrowL m b r h t l 1)
    else if x = "pageup" then (topT f r h (pageT s p r h t l (-1)).1 (pageT s p r h t l (-1)).2, (pageT s p r h t l (-1)).2)
    else if x = "pagedown" then (topT f r h (pageT s p r h t l 1).1 (pageT s p r h t l 1).2, (pageT s p r h t l 1).2)
    else if x = "wheelup" then wheelT v r h t l (-1)
    else if x = "wheeldown" then wheelT v r h t l 1
    else if x = "home" then (topT f r h t 0, 0)
    else (topT f r h t (r - 1), r - 1)
  | .tup [.str _, .int i] => (t, t + i)
  | _ => (t, l)
inductive Deed (h : Int) : D → Prop where
  | up : Deed h (.tup [.str "up"])
  | down : Deed h (.tup [.str "down"])
  | home : Deed h (.tup [.str "home"])
  | end_ : Deed h (.tup [.str "end"])
  | pageup : Deed h (.tup [.str "pageup"])
  | pagedown : Deed h (.tup [.str "pagedown"])
  | wheelup : Deed h (.tup [.str "wheelup"])
  | wheeldown : Deed h (.tup [.str "wheeldown"])
  | click (i : Int) : 0 ≤ i → i < h → Deed h (.tup [.str "click", .int i])

theorem s_step (k : Nat) (f s p : Str) (m : Int) (v b : Str) (r h t l : Int) (w : Wd) (h0 : 0 < h) (h1 : h < 1000) (hr : 0 < r) {d : D} (hd : Deed h d) : run Pr sub (k+4) 14 [wayD f s p m v b, tp2 r h, tp2 t l, d] w = .ok (tp2 (stepT f s p m v b r h t l d).1 (stepT f s p m v b r h t l d).2) w := by
  have fo := s_followed (k + 1) f s p m v b r h
  have ar := s_arrow k f s p m v b r h t l
  have pa := s_paged k f s p m v b r h t l
  have wh := s_wheeled k f s p m v b r h t l
  rw [u_step]
  cases hd with
  | up => simp [b14, stepT, ar, h0, h1, hr]
  | down => simp [b14, stepT, ar, h0, h1, hr]
  | home => simp [b14, stepT, fo, h0, h1]
  | end_ => simp [b14, stepT, fo, h0, h1]
  | pageup => simp [b14, stepT, pa, h0, h1]
  | pagedown => simp [b14, stepT, pa, h0, h1]
  | wheelup => simp [b14, stepT, wh]
  | wheeldown => simp [b14, stepT, wh]
  | click i _ _ => simp [b14, stepT]

/-! ## shapes, states -/
def Shape (r h : Int) : Prop := 3 ≤ r ∧ r ≤ 8 ∧ 2 ≤ h ∧ h ≤ 4 ∧ h < r
def Val (r h t l : Int) : Prop := 0 ≤ t ∧ t ≤ r - h ∧ 0 ≤ l ∧ l < r
def Fol (f : Str) : Prop := f = "least" ∨ f = "page" ∨ f = "middle" ∨ f = "margin"
def shapesL : List (Int × Int) := [(3,2),(4,2),(4,3),(5,2),(5,3),(5,4),(6,2),(6,3),(6,4),(7,2),(7,3),(7,4),(8,2),(8,3),(8,4)]
def rg (n : Int) : List Int := (List.range n.toNat).map fun (i : Nat) => (i : Int)
theorem mem_rg {n i : Int} : i ∈ rg n ↔ 0 ≤ i ∧ i < n := by
  unfold rg
  rw [List.mem_map]
  constructor
  · rintro ⟨j, hj, rfl⟩
    have := List.mem_range.mp hj
    omega
  · rintro ⟨h1, h2⟩
    exact ⟨i.toNat, List.mem_range.mpr (by omega), by omega⟩
@[irreducible] def dom : List (Int × Int × Int × Int) := shapesL.flatMap fun s => (rg (s.1 - s.2 + 1)).flatMap fun t => (rg s.1).map fun l => (s.1, s.2, t, l)
theorem mem_shapes {r h : Int} (s : Shape r h) : (r, h) ∈ shapesL := by
  obtain ⟨h1, h2, h3, h4, h5⟩ := s
  have hr : r = 3 ∨ r = 4 ∨ r = 5 ∨ r = 6 ∨ r = 7 ∨ r = 8 := by omega
  have hh : h = 2 ∨ h = 3 ∨ h = 4 := by omega
  rcases hr with rfl | rfl | rfl | rfl | rfl | rfl <;> rcases hh with rfl | rfl | rfl <;> first | omega | decide
theorem mem_dom {r h t l : Int} (s : Shape r h) (v : Val r h t l) : (r, h, t, l) ∈ dom := by
  unfold dom
  rw [List.mem_flatMap]
  refine ⟨(r, h), mem_shapes s, ?_⟩
  rw [List.mem_flatMap]
  exact ⟨t, mem_rg.mpr ⟨v.1, by have := v.2.1; show t < r - h + 1; omega⟩, List.mem_map.mpr ⟨l, mem_rg.mpr v.2.2, rfl⟩⟩
theorem topT_ok {f : Str} {r h t l : Int} (s : Shape r h) (v : Val r h t l) : Val r h (topT f r h t l) l ∧ topT f r h t l ≤ l ∧ l < topT f r h t l + h := by
  obtain ⟨h1, h2, h3, h4, h5⟩ := s
  obtain ⟨v1, v2, v3, v4⟩ := v
  have hh : h = 2 ∨ h = 3 ∨ h = 4 := by omega
  unfold Val topT placeT moreT boundedT
  rcases hh with rfl | rfl | rfl <;> (repeat' split) <;> omega
def Stp (s : Str) : Prop := s = "whole" ∨ s = "less"
def Pag (p : Str) : Prop := p = "lead" ∨ p = "both" ∨ p = "edge"

theorem arrowL_ok {m : Int} {b : Str} {r h t l more : Int} (sh : Shape r h) (va : Val r h t l) (hm : more = 1 ∨ more = -1) : 0 ≤ arrowL m b r h t l more ∧ arrowL m b r h t l more < r := by
  obtain ⟨s1, s2, s3, s4, s5⟩ := sh
  obtain ⟨v1, v2, v3, v4⟩ := va
  have key : ∀ y : Int, 0 ≤ y → y < r → 0 ≤ (if 0 ≤ y + more ∧ y + more < r then y + more else if m = 1 then (y + more) % r else y + more - more) ∧ (if 0 ≤ y + more ∧ y + more < r then y + more else if m = 1 then (y + more) % r else y + more - more) < r := by
    intro y y1 y2
    split
    · omega
    · split
      · exact ⟨Int.emod_nonneg _ (by omega), Int.emod_lt_of_pos _ (by omega)⟩
      · omega
  unfold arrowL
  by_cases c : b = "window"
  · simp only [c, if_true]
    exact key _ (by unfold boundedT; omega) (by unfold boundedT; omega)
  · simp only [c, if_false]
    exact key _ v3 v4
theorem pageT_ok {s p : Str} {r h t l more : Int} (sh : Shape r h) (va : Val r h t l) : Val r h (pageT s p r h t l more).1 (pageT s p r h t l more).2 := by
  obtain ⟨s1, s2, s3, s4, s5⟩ := sh
  obtain ⟨v1, v2, v3, v4⟩ := va
  unfold pageT
  split
  · split
    · dsimp only
      unfold Val
      split <;> omega
    · dsimp only
      unfold Val boundedT
      omega
  · split
    · dsimp only
      unfold Val edgeT
      split <;> omega
    · dsimp only
      unfold Val boundedT
      omega
theorem wheelT_ok {v : Str} {r h t l more : Int} (sh : Shape r h) (va : Val r h t l) : Val r h (wheelT v r h t l more).1 (wheelT v r h t l more).2 := by
  obtain ⟨s1, s2, s3, s4, s5⟩ := sh
  obtain ⟨v1, v2, v3, v4⟩ := va
  unfold wheelT boundedT Val
  dsimp only
  split <;> omega
theorem stepT_ok {f s p : Str} {m : Int} {v b : Str} {r h t l : Int} {d : D} (sh : Shape r h) (va : Val r h t l) (hd : Deed h d) : Val r h (stepT f s p m v b r h t l d).1 (stepT f s p m v b r h t l d).2 := by
  have fo : ∀ {t' l' : Int}, Val r h t' l' → Val r h (topT f r h t' l') l' := fun z => (topT_ok sh z).1
  have a1 := arrowL_ok (m := m) (b := b) sh va (.inl rfl)
  have a2 := arrowL_ok (m := m) (b := b) sh va (.inr rfl)
  unfold stepT
  cases hd
  case up => simp; exact fo ⟨va.1, va.2.1, a2⟩
  case down => simp; exact fo ⟨va.1, va.2.1, a1⟩
  case home => simp; exact fo ⟨va.1, va.2.1, by obtain ⟨s1, _⟩ := sh; omega⟩
  case end_ => simp; exact fo ⟨va.1, va.2.1, by obtain ⟨s1, _⟩ := sh; omega⟩
  case pageup => simp; exact fo (pageT_ok sh va)
  case pagedown => simp; exact fo (pageT_ok sh va)
  case wheelup => simp; exact wheelT_ok sh va
  case wheeldown => simp; exact wheelT_ok sh va
  case click i h1 h2 =>
    obtain ⟨v1, v2, v3, v4⟩ := va
    refine ⟨v1, v2, ?_, ?_⟩
    · show 0 ≤ t + i; omega
    · show t + i < r; omega

/-! ## the states along a row -/
def stepD (f s p : Str) (m : Int) (v b : Str) (r h : Int) (x d : D) : D := match x with
  | .tup [.int t, .int l] => tp2 (stepT f s p m v b r h t l d).1 (stepT f s p m v b r h t l d).2
  | x => x
def ValD (r h : Int) (x : D) : Prop := ∃ t l, x = tp2 t l ∧ Val r h t l
def statesD (f s p : Str) (m : Int) (v b : Str) (r h : Int) (row : List D) : List D := tp2 0 0 :: scanT (stepD f s p m v b r h) (tp2 0 0) row
theorem val0 {r h : Int} (sh : Shape r h) : ValD r h (tp2 0 0) := ⟨0, 0, rfl, by obtain ⟨s1, s2, s3, s4, s5⟩ := sh; unfold Val; omega⟩
theorem stepD_ok {f s p : Str} {m : Int} {v b : Str} {r h : Int} (sh : Shape r h) (x d : D) (hx : ValD r h x) (hd : Deed h d) : ValD r h (stepD f s p m v b r h x d) := by
  obtain ⟨t, l, rfl, va⟩ := hx
  exact ⟨_, _, rfl, stepT_ok sh va hd⟩
theorem r_states_of (k : Nat) (f s p : Str) (m : Int) (v b : Str) {r h : Int} (sh : Shape r h) (w : Wd) {row : List D} (hr : ∀ d ∈ row, Deed h d) (hl : row.length ≤ 1000) :
    run Pr sub (k + 5) 18 [wayD f s p m v b, tp2 r h, .lst row] w = .ok (.lst (statesD f s p m v b r h row)) (w ++ [.dead]) := by
  have lp := app_loop (F := run Pr sub (k + 4)) (sub := sub) (G := 14) (way := wayD f s p m v b) (sh := tp2 r h) (row := .lst row) (stp := stepD f s p m v b r h) (P := ValD r h) (Q := Deed h)
    (fun x d w ⟨t, l, e, va⟩ hd => by
      subst e
      obtain ⟨s1, s2, s3, s4, s5⟩ := sh
      exact s_step k f s p m v b r h t l w (by omega) (by omega) (by omega) hd) (fun x d => stepD_ok sh x d) row hr [] (tp2 0 0) (val0 sh) (by unfold line; simp; omega) w none
  rw [u_states_of]
  simp only [List.nil_append] at lp
  rw [appBody] at lp
  simp [b18, c_START, itemsD, lp, statesD]

/-! ## the checks pass -/
def Whe (v : Str) : Prop := v = "free" ∨ v = "taken"
def Bck (b : Str) : Prop := b = "lead" ∨ b = "window"
theorem r_is_int (k : Nat) (i lo hi : Int) (w : Wd) : run Pr sub (k + 1) 0 [.int i, .int lo, .int hi] w = .ok (.bl (decide (lo ≤ i ∧ i ≤ hi))) w := by
  rw [u_is_int]
  by_cases c : lo ≤ i
  · by_cases c2 : i ≤ hi <;> simp [b0, c, c2]
  · simp [b0, c]
theorem w_fol (k : Nat) {f : Str} (hf : Fol f) (w : Wd) : run Pr sub (k + 1) 15 [.str f, c_FOLLOWS] w = .ok (.bl true) w := by
  rcases hf with rfl | rfl | rfl | rfl <;> kernel_rfl
theorem w_stp (k : Nat) {f : Str} (hf : Stp f) (w : Wd) : run Pr sub (k + 1) 15 [.str f, c_STEPS] w = .ok (.bl true) w := by
  rcases hf with rfl | rfl <;> kernel_rfl
theorem w_pag (k : Nat) {f : Str} (hf : Pag f) (w : Wd) : run Pr sub (k + 1) 15 [.str f, c_PAGED] w = .ok (.bl true) w := by
  rcases hf with rfl | rfl | rfl <;> kernel_rfl
theorem w_whe (k : Nat) {f : Str} (hf : Whe f) (w : Wd) : run Pr sub (k + 1) 15 [.str f, c_WHEELS] w = .ok (.bl true) w := by
  rcases hf with rfl | rfl <;> kernel_rfl
theorem w_bck (k : Nat) {f : Str} (hf : Bck f) (w : Wd) : run Pr sub (k + 1) 15 [.str f, c_BACKS] w = .ok (.bl true) w := by
  rcases hf with rfl | rfl <;> kernel_rfl
theorem r_is_way (k : Nat) {f s p v b : Str} {m : Int} (hf : Fol f) (hs : Stp s) (hp : Pag p) (hm : m = 0 ∨ m = 1) (hv : Whe v) (hb : Bck b) (w : Wd) : run Pr sub (k + 2) 16 [wayD f s p m v b] w = .ok (.bl true) w := by
  have h1 := w_fol k hf w
  have h2 := w_stp k hs w
  have h3 := w_pag k hp w
  have h4 := w_whe k hv w
  have h5 := w_bck k hb w
  have h6 := r_is_int k m 0 1 w
  have h7 : (0 ≤ m ∧ m ≤ 1) := by omega
  rw [u_is_way]
  simp only [c_FOLLOWS, c_STEPS, c_PAGED, c_WHEELS, c_BACKS] at h1 h2 h3 h4 h5
  simp [b16, h1, h2, h3, h4, h5, h6, h7.1, h7.2]
theorem r_check_way (k : Nat) {f s p v b : Str} {m : Int} (hf : Fol f) (hs : Stp s) (hp : Pag p) (hm : m = 0 ∨ m = 1) (hv : Whe v) (hb : Bck b) (w : Wd) : run Pr sub (k + 3) 17 [wayD f s p m v b] w = .ok .non w := by
  rw [u_check_way]
  simp [b17, r_is_way k hf hs hp hm hv hb]
theorem r_is_form (k : Nat) {r h : Int} (sh : Shape r h) (w : Wd) : run Pr sub (k + 2) 1 [tp2 r h] w = .ok (.bl true) w := by
  obtain ⟨s1, s2, s3, s4, s5⟩ := sh
  rw [u_is_form]
  simp [b1, r_is_int, s1, s2, s3, s4, s5]
theorem r_check_shape (k : Nat) {r h : Int} (sh : Shape r h) (w : Wd) : run Pr sub (k + 3) 2 [tp2 r h] w = .ok .non w := by
  rw [u_check_shape]
  simp [b2, r_is_form k sh]
theorem r_is_one (k : Nat) {r h : Int} {d : D} (hd : Deed h d) (w : Wd) : run Pr sub (k + 2) 3 [tp2 r h, d] w = .ok (.bl true) w := by
  cases hd with
  | click i h1 h2 =>
    have e : copD .notin (.str "click") c_KINDS w = some false := by kernel_rfl
    have e3 : copD .notin (.int 2) (.tup [.int 1, .int 2]) w = some false := by kernel_rfl
    have e2 : 0 ≤ i ∧ i ≤ h - 1 := by omega
    have e4 := r_is_int k i 0 (h - 1) w
    rw [u_is_one]
    simp only [c_KINDS] at e
    simp [b3, e, e3, e4, e2.1, e2.2]
  | _ => kernel_rfl
theorem r_are_deeds (k : Nat) {r h : Int} (w : Wd) {row : List D} (hr : ∀ d ∈ row, Deed h d) (hl : row.length ≤ 40) : run Pr sub (k + 3) 4 [tp2 r h, .lst row] w = .ok (.bl true) w := by
  have lc := lc_map (ρ := [some (tp2 r h), some (.lst row), none]) (t := 2) (c := evE (run Pr sub (k + 2)) (.con (.bl true))) (f := evE (run Pr sub (k + 2)) (.call 3 (.cons (.var 0) (.cons (.var 2) .nil)))) (g := fun _ => .bl true) (w := w) (by simp) row []
    (fun d hd => ⟨rfl, by simp [r_is_one k (hr d hd)]⟩) (by unfold line; simp; omega)
  rw [u_are_deeds]
  have hl2 : (row.length : Int) ≤ 40 := by omega
  simp [b4, hl2, itemsD, lc, -List.map_const]
theorem r_check_row (k : Nat) {r h : Int} (w : Wd) {row : List D} (hr : ∀ d ∈ row, Deed h d) (hl : row.length ≤ 40) : run Pr sub (k + 4) 5 [tp2 r h, .lst row] w = .ok .non w := by
  rw [u_check_row]
  simp [b5, r_are_deeds k w hr hl]
theorem r_states_along (k : Nat) {f s p v b : Str} {m : Int} (hf : Fol f) (hs : Stp s) (hp : Pag p) (hm : m = 0 ∨ m = 1) (hv : Whe v) (hb : Bck b) {r h : Int} (sh : Shape r h) (w : Wd) {row : List D} (hr : ∀ d ∈ row, Deed h d) (hl : row.length ≤ 40) :
    run Pr sub (k + 6) 19 [wayD f s p m v b, tp2 r h, .lst row] w = .ok (.lst (statesD f s p m v b r h row)) (w ++ [.dead]) := by
  rw [u_states_along]
  simp [b19, r_check_way (k + 2) hf hs hp hm hv hb, r_check_shape (k + 2) sh, r_check_row (k + 1) w hr hl, r_states_of k f s p m v b sh w hr (by omega)]
def lastS (f s p : Str) (m : Int) (v b : Str) (r h : Int) (row : List D) : D := (scanT (stepD f s p m v b r h) (tp2 0 0) row).getLastD (tp2 0 0)
theorem r_state_after (k : Nat) {f s p v b : Str} {m : Int} (hf : Fol f) (hs : Stp s) (hp : Pag p) (hm : m = 0 ∨ m = 1) (hv : Whe v) (hb : Bck b) {r h : Int} (sh : Shape r h) (w : Wd) {row : List D} (hr : ∀ d ∈ row, Deed h d) (hl : row.length ≤ 40) :
    run Pr sub (k + 7) 20 [wayD f s p m v b, tp2 r h, .lst row] w = .ok (lastS f s p m v b r h row) (w ++ [.dead]) := by
  have e := r_states_along k hf hs hp hm hv hb sh w hr hl
  rw [u_state_after]
  simp [b20, e, statesD, ix_lastL, lastS]

/-! ## deeds, shapes -/
def clicks (h : Int) : List D := (rg h).map fun i => .tup [.str "click", .int i]
def deedsL (h : Int) : List D := [.tup [.str "up"], .tup [.str "down"], .tup [.str "home"], .tup [.str "end"], .tup [.str "pageup"], .tup [.str "pagedown"], .tup [.str "wheelup"], .tup [.str "wheeldown"]] ++ clicks h
theorem deedsL_ok {h : Int} : ∀ d ∈ deedsL h, Deed h d := by
  intro d hd
  unfold deedsL at hd
  rcases List.mem_append.mp hd with hd | hd
  · simp at hd
    rcases hd with rfl | rfl | rfl | rfl | rfl | rfl | rfl | rfl
    · exact .up
    · exact .down
    · exact .home
    · exact .end_
    · exact .pageup
    · exact .pagedown
    · exact .wheelup
    · exact .wheeldown
  · obtain ⟨i, hi, rfl⟩ := List.mem_map.mp hd
    have := mem_rg.mp hi
    exact .click i this.1 this.2
theorem l_deeds (k : Nat) {r h : Int} (sh : Shape r h) (w : Wd) : run Pr sub (k + 2) 25 [tp2 r h] w = .ok (.lst (deedsL h)) w := by
  obtain ⟨s1, s2, s3, s4, s5⟩ := sh
  have hh : h = 2 ∨ h = 3 ∨ h = 4 := by omega
  rcases hh with rfl | rfl | rfl <;> kernel_rfl
def shapesD : List D := shapesL.map fun s => tp2 s.1 s.2
theorem l_shapes (k : Nat) (w : Wd) : run Pr sub (k + 1) 26 [] w = .ok (.lst shapesD) w := by kernel_rfl
theorem shapesD_ok : ∀ d ∈ shapesD, ∃ r h, d = tp2 r h ∧ Shape r h := by
  intro d hd
  obtain ⟨s, hs, rfl⟩ := List.mem_map.mp hd
  refine ⟨s.1, s.2, rfl, ?_⟩
  simp [shapesL] at hs
  rcases hs with rfl | rfl | rfl | rfl | rfl | rfl | rfl | rfl | rfl | rfl | rfl | rfl | rfl | rfl | rfl <;> (unfold Shape; dsimp only; omega)

/-! ## the draws -/
theorem l_start (k : Nat) (ns : List Int) : ∃ ms : List Int, ms ≠ [] ∧ run Pr sub (k + 1) 21 [.scr ns] [] = .ok (.loc 1) (Dw ms 0 []) := by
  cases ns with
  | nil => exact ⟨[0], by simp, by rw [u__law_start]; simp [b21, ne_scr, Dw]⟩
  | cons n ns =>
    refine ⟨n :: ns, by simp, ?_⟩
    rw [u__law_start]
    have e : prim .listC [.scr (n :: ns)] [] = .ok (.loc 0) [.lst ((n :: ns).map .int)] := rfl
    simp [b21, ne_scr, Dw, e]
def mixT (cell c lim : Int) : Int := (((cell + 104729 * c) % 4294967291) ^ 5 % 4294967279 / 64 * 69621 + ((cell + 104729 * c) % 4294967291) ^ 5 % 4294967279) % 4294967231 / 8 % lim
theorem l_draw (k : Nat) {ms : List Int} (hm : ms ≠ []) (c : Int) (rest : Wd) {lim : Int} (h0 : 0 < lim) (h1 : lim < 1000000) :
    ∃ (ms' : List Int) (y : Int), ms' ≠ [] ∧ 0 ≤ y ∧ y < lim ∧ run Pr sub (k + 1) 22 [.loc 1, .int lim] (Dw ms c rest) = .ok (.int y) (Dw ms' (c + 1) rest) := by
  have hp : (0 : Int) < ms.length := by
    have : 0 < ms.length := List.length_pos_iff.mpr hm
    omega
  obtain ⟨j, hj⟩ : ∃ j : Nat, (c + 1) % (ms.length : Int) = (j : Int) := ⟨((c + 1) % (ms.length : Int)).toNat, by have := Int.emod_nonneg (c + 1) (b := (ms.length : Int)) (by omega); omega⟩
  have hjl : j < ms.length := by have := Int.emod_lt_of_pos (c + 1) hp; omega
  have hl : lim < 1073741824 := by omega
  have hq : 0 < ms.length := by omega
  by_cases hc : 1000000000000000000 ≤ ms[j]
  · refine ⟨ms.set j (ms[j] / lim), ms[j] % lim, ?_, Int.emod_nonneg _ (by omega), Int.emod_lt_of_pos _ h0, ?_⟩
    · intro z
      have := congrArg List.length z
      rw [List.length_set] at this
      simp at this
      exact hm this
    · rw [u__law_draw]
      simp [b22, bin_mod, hq, hj, dw_get _ _ _ _ hjl, hc, bin_fdiv, h0, hl, dw_put _ _ _ _ hjl]
  · have x1 : ∀ z : Int, (z % 4294967291).natAbs < 18446744073709551616 := fun z => by omega
    have x2 : ∀ z : Int, cmul 104729 z = true := fun z => by
      unfold cmul
      simp
    have x3 : ∀ z : Int, cmul z 69621 = true := fun z => by
      unfold cmul
      simp
    refine ⟨ms, mixT ms[j] (c + 1) lim, hm, Int.emod_nonneg _ (by omega), Int.emod_lt_of_pos _ h0, ?_⟩
    rw [u__law_draw]
    simp [b22, bin_mod, hq, hj, dw_get _ _ _ _ hjl, hc, bin_fdiv, h0, hl, bin_mul, bin_pow, x1, x2, x3, mixT]
theorem l_pick (k : Nat) {ms : List Int} (hm : ms ≠ []) (c : Int) (rest : Wd) {xs : List D} (hx : xs ≠ []) (hl : xs.length < 1000000) :
    ∃ (ms' : List Int) (d : D), ms' ≠ [] ∧ d ∈ xs ∧ run Pr sub (k + 2) 23 [.loc 1, .lst xs] (Dw ms c rest) = .ok d (Dw ms' (c + 1) rest) := by
  have hp : 0 < xs.length := List.length_pos_iff.mpr hx
  obtain ⟨ms', y, h1, h2, h3, e⟩ := l_draw k hm c rest (lim := xs.length) (by omega) (by omega)
  obtain ⟨j, rfl⟩ : ∃ j : Nat, y = (j : Int) := ⟨y.toNat, by omega⟩
  have hj : j < xs.length := by omega
  refine ⟨ms', xs[j], h1, List.getElem_mem _, ?_⟩
  rw [u__law_pick]
  simp [b23, e, ix_nth _ _ hj]
theorem l_way (k : Nat) {ms : List Int} (hm : ms ≠ []) (c : Int) (rest : Wd) :
    ∃ (ms' : List Int) (c' : Int) (f s p v b : Str) (m : Int), ms' ≠ [] ∧ Fol f ∧ Stp s ∧ Pag p ∧ (m = 0 ∨ m = 1) ∧ Whe v ∧ Bck b ∧ run Pr sub (k + 3) 27 [.loc 1] (Dw ms c rest) = .ok (wayD f s p m v b) (Dw ms' c' rest) := by
  obtain ⟨m1, d1, h1, g1, e1⟩ := l_pick k hm c rest (xs := [.str "least", .str "page", .str "middle", .str "margin"]) (by simp) (by simp)
  obtain ⟨m2, d2, h2, g2, e2⟩ := l_pick k h1 (c + 1) rest (xs := [.str "whole", .str "less"]) (by simp) (by simp)
  obtain ⟨m3, d3, h3, g3, e3⟩ := l_pick k h2 (c + 1 + 1) rest (xs := [.str "lead", .str "both", .str "edge"]) (by simp) (by simp)
  obtain ⟨m4, d4, h4, g4, e4⟩ := l_pick k h3 (c + 1 + 1 + 1) rest (xs := [.str "free", .str "free", .str "taken"]) (by simp) (by simp)
  obtain ⟨m5, y, h5, y1, y2, e5⟩ := l_draw (k + 1) h4 (c + 1 + 1 + 1 + 1) rest (lim := 2) (by decide) (by decide)
  obtain ⟨m6, d6, h6, g6, e6⟩ := l_pick k h5 (c + 1 + 1 + 1 + 1 + 1) rest (xs := [.str "lead", .str "window"]) (by simp) (by simp)
  have hf : ∃ f, d1 = .str f ∧ Fol f := by simp at g1; rcases g1 with rfl | rfl | rfl | rfl <;> exact ⟨_, rfl, by simp [Fol]⟩
  have hs : ∃ f, d2 = .str f ∧ Stp f := by simp at g2; rcases g2 with rfl | rfl <;> exact ⟨_, rfl, by simp [Stp]⟩
  have hp : ∃ f, d3 = .str f ∧ Pag f := by simp at g3; rcases g3 with rfl | rfl | rfl <;> exact ⟨_, rfl, by simp [Pag]⟩
  have hv : ∃ f, d4 = .str f ∧ Whe f := by simp at g4; rcases g4 with rfl | rfl <;> exact ⟨_, rfl, by simp [Whe]⟩
  have hb : ∃ f, d6 = .str f ∧ Bck f := by simp at g6; rcases g6 with rfl | rfl <;> exact ⟨_, rfl, by simp [Bck]⟩
  obtain ⟨f, rfl, hf⟩ := hf
  obtain ⟨s, rfl, hs⟩ := hs
  obtain ⟨p, rfl, hp⟩ := hp
  obtain ⟨v, rfl, hv⟩ := hv
  obtain ⟨b, rfl, hb⟩ := hb
  refine ⟨m6, c + 1 + 1 + 1 + 1 + 1 + 1, f, s, p, v, b, y, h6, hf, hs, hp, by omega, hv, hb, ?_⟩
  rw [u__law_way]
  simp [b27, e1, e2, e3, e4, e5, e6]

theorem mul1 (d : D) (w : Wd) : bin .mul (.lst [d]) (.int 1) w = some (.lst [d]) := by kernel_rfl
theorem mul2 (d : D) (w : Wd) : bin .mul (.lst [d]) (.int 2) w = some (.lst [d, d]) := by kernel_rfl
theorem mul3 (d : D) (w : Wd) : bin .mul (.lst [d]) (.int 3) w = some (.lst [d, d, d]) := by kernel_rfl
def whlC : Ss → Option (E × Ss)
  | .cons (.whl _ c b) _ => some (c, b)
  | .cons _ ss => whlC ss
  | .nil => none
abbrev rowC : E := .cmp .lt (.prim .len (.cons (.var 3) .nil)) (.var 4)
abbrev rowB : Ss := .cons (.asg (.nm 3) (.bin .add (.var 3) (.bin .mul (.lst (.cons (.call 23 (.cons (.var 0) (.cons (.call 25 (.cons (.var 1) .nil)) .nil))) .nil)) (.call 23 (.cons (.var 0) (.cons (.lst (.cons (.con (.int 1)) (.cons (.con (.int 1)) (.cons (.con (.int 1)) (.cons (.con (.int 2)) (.cons (.con (.int 3)) .nil)))))) .nil)))))) .nil
theorem row_loop (k : Nat) {r h : Int} (sh : Shape r h) (x : Option D) (most : Int) (hmost : most ≤ 40) (rest : Wd) : ∀ (n : Nat) (found : List D) (ms : List Int) (c : Int), ms ≠ [] → (∀ d ∈ found, Deed h d) → found.length ≤ 50 → (most - found.length).toNat < n →
    ∃ (found' : List D) (ms' : List Int) (c' : Int), ms' ≠ [] ∧ (∀ d ∈ found', Deed h d) ∧ most ≤ found'.length ∧ found'.length ≤ 50 ∧
      whlL (evE (run Pr sub (k + 3)) rowC) (evSs (run Pr sub (k + 3)) sub rowB) n [some (.loc 1), some (tp2 r h), x, some (.lst found), some (.int most)] (Dw ms c rest) = .nx [some (.loc 1), some (tp2 r h), x, some (.lst found'), some (.int most)] (Dw ms' c' rest)
  | 0, found, ms, c, _, _, _, hn => absurd hn (Nat.not_lt_zero _)
  | n + 1, found, ms, c, hm, hd, hl, hn => by
    by_cases hlt : (found.length : Int) < most
    · obtain ⟨m1, d, h1, g1, e1⟩ := l_pick (k + 1) hm c rest (xs := deedsL h) (by simp [deedsL]) (by
        obtain ⟨s1, s2, s3, s4, s5⟩ := sh
        simp [deedsL, clicks, rg]; omega)
      obtain ⟨m2, j, h2, g2, e2⟩ := l_pick (k + 1) h1 (c + 1) rest (xs := [.int 1, .int 1, .int 1, .int 2, .int 3]) (by simp) (by simp)
      have de := l_deeds (k + 1) sh (Dw ms c rest)
      have hD := deedsL_ok d g1
      have key : ∃ ds : List D, (∀ z ∈ ds, Deed h z) ∧ 1 ≤ ds.length ∧ ds.length ≤ 3 ∧ ∀ w, bin .mul (.lst [d]) j w = some (.lst ds) := by
        simp at g2
        rcases g2 with rfl | rfl | rfl
        · exact ⟨[d], by simpa using hD, by simp, by simp, mul1 d⟩
        · exact ⟨[d, d], by simpa using hD, by simp, by simp, mul2 d⟩
        · exact ⟨[d, d, d], by simpa using hD, by simp, by simp, mul3 d⟩
      obtain ⟨ds, q1, q2, q3, q4⟩ := key
      obtain ⟨f', m', c', z1, z2, z3, z4, z5⟩ := row_loop k sh x most hmost rest n (found ++ ds) m2 (c + 1 + 1) h2 (fun z hz => by
        rcases List.mem_append.mp hz with hz | hz
        · exact hd z hz
        · exact q1 z hz) (by rw [List.length_append]; omega) (by rw [List.length_append]; omega)
      refine ⟨f', m', c', z1, z2, z3, z4, ?_⟩
      have ad := add_lst (w := Dw m2 (c + 1 + 1) rest) found ds (by unfold line; omega)
      rw [whlL]
      simp [hlt, e1, e2, de, q4, ad]
      exact z5
    · refine ⟨found, ms, c, hm, hd, by omega, hl, ?_⟩
      rw [whlL]
      simp [hlt]
theorem l_row (k : Nat) {ms : List Int} (hm : ms ≠ []) (c : Int) (rest : Wd) {r h : Int} (sh : Shape r h) {longest : Int} (h0 : 0 ≤ longest) (h1 : longest ≤ 40) :
    ∃ (ms' : List Int) (c' : Int) (row : List D), ms' ≠ [] ∧ (∀ d ∈ row, Deed h d) ∧ (row.length : Int) ≤ longest ∧ run Pr sub (k + 4) 28 [.loc 1, tp2 r h, .int longest] (Dw ms c rest) = .ok (.lst row) (Dw ms' c' rest) := by
  obtain ⟨m1, y, g1, y1, y2, e1⟩ := l_draw (k + 2) hm c rest (lim := longest + 1) (by omega) (by omega)
  obtain ⟨found, m2, c2, z1, z2, z3, z4, z5⟩ := row_loop k sh (some (.int longest)) y (by omega) rest 1000 [] m1 (c + 1) g1 (by simp) (by simp) (by simp; omega)
  obtain ⟨n, rfl⟩ : ∃ n : Nat, y = (n : Int) := ⟨y.toNat, by omega⟩
  refine ⟨m2, c2, found.take n, z1, fun d hd => z2 d (List.mem_of_mem_take hd), by rw [List.length_take]; omega, ?_⟩
  rw [u__law_row]
  simp [b28, e1, z5, slc_take]

/-! ## a list turned about -/
def Evn (f : Str) : Prop := f = "least" ∨ f = "margin"
theorem topT_mir {f : Str} (hf : Evn f) {r h t l : Int} (sh : Shape r h) (va : Val r h t l) : topT f r h (r - h - t) (r - 1 - l) = r - h - topT f r h t l := by
  obtain ⟨s1, s2, s3, s4, s5⟩ := sh
  obtain ⟨v1, v2, v3, v4⟩ := va
  have hm : (moreT f h = 0) ∨ (moreT f h = 1 ∧ 2 < h) := by
    unfold moreT
    split
    · rename_i c; exact .inr ⟨rfl, c.2⟩
    · exact .inl rfl
  have hf' : f = "least" ∨ f = "margin" := hf
  unfold topT
  rw [if_pos hf', if_pos hf']
  generalize moreT f h = q at *
  rcases hm with rfl | ⟨rfl, h2⟩ <;> omega
theorem arrowL_mir {m : Int} {b : Str} {r h t l more : Int} (sh : Shape r h) (va : Val r h t l) (hm : more = 1 ∨ more = -1) (h2 : m = 0 ∨ m = 1) : arrowL m b r h (r - h - t) (r - 1 - l) (-more) = r - 1 - arrowL m b r h t l more := by
  obtain ⟨s1, s2, s3, s4, s5⟩ := sh
  obtain ⟨v1, v2, v3, v4⟩ := va
  have key : ∀ y : Int, 0 ≤ y → y < r → (if 0 ≤ (r - 1 - y) + -more ∧ (r - 1 - y) + -more < r then (r - 1 - y) + -more else if m = 1 then ((r - 1 - y) + -more) % r else (r - 1 - y) + -more - -more) =
      r - 1 - (if 0 ≤ y + more ∧ y + more < r then y + more else if m = 1 then (y + more) % r else y + more - more) := by
    intro y y1 y2
    by_cases c : 0 ≤ y + more ∧ y + more < r
    · rw [if_pos c, if_pos (by omega)]; omega
    · rw [if_neg c, if_neg (by omega)]
      rcases h2 with rfl | rfl
      · rw [if_neg (by decide), if_neg (by decide)]; omega
      · rw [if_pos rfl, if_pos rfl]
        have hr : r = 3 ∨ r = 4 ∨ r = 5 ∨ r = 6 ∨ r = 7 ∨ r = 8 := by omega
        rcases hm with rfl | rfl
        · have : y = r - 1 := by omega
          subst this
          rcases hr with rfl | rfl | rfl | rfl | rfl | rfl <;> rfl
        · have : y = 0 := by omega
          subst this
          rcases hr with rfl | rfl | rfl | rfl | rfl | rfl <;> rfl
  have e : boundedT (r - 1 - l) (r - h - t) (r - h - t + h - 1) = r - 1 - boundedT l t (t + h - 1) := by unfold boundedT; omega
  unfold arrowL
  by_cases c : b = "window"
  · simp only [c, if_true, e]
    exact key _ (by unfold boundedT; omega) (by unfold boundedT; omega)
  · simp only [c, if_false]
    exact key _ v3 v4
theorem pageT_mir {s p : Str} {r h t l more : Int} (sh : Shape r h) (va : Val r h t l) (hm : more = 1 ∨ more = -1) : pageT s p r h (r - h - t) (r - 1 - l) (-more) = (r - h - (pageT s p r h t l more).1, r - 1 - (pageT s p r h t l more).2) := by
  obtain ⟨s1, s2, s3, s4, s5⟩ := sh
  obtain ⟨v1, v2, v3, v4⟩ := va
  have hf : farT s h (-more) = - farT s h more := by unfold farT; rcases hm with rfl | rfl <;> (split <;> omega)
  have hf2 : 0 < farT s h more ∨ farT s h more < 0 := by unfold farT; rcases hm with rfl | rfl <;> (split <;> omega)
  have he : edgeT h (r - h - t) (-more) = r - 1 - edgeT h t more := by unfold edgeT; rcases hm with rfl | rfl <;> simp <;> omega
  have hpl : (0 ≤ placeT h (r - h - t) (r - 1 - l)) ↔ 0 ≤ placeT h t l := by unfold placeT; split <;> split <;> omega
  unfold pageT
  rw [hf, he]
  generalize farT s h more = q at *
  generalize hg : edgeT h t more = e at *
  by_cases c : p = "both"
  · rw [if_pos c, if_pos c]
    by_cases c2 : boundedT (t + q) 0 (r - h) = t
    · have c3 : boundedT (r - h - t + -q) 0 (r - h) = r - h - t := by unfold boundedT at *; omega
      rw [if_pos c2, if_pos c3]
      rcases hm with rfl | rfl <;> simp
    · have c3 : ¬ boundedT (r - h - t + -q) 0 (r - h) = r - h - t := by unfold boundedT at *; omega
      rw [if_neg c2, if_neg c3]
      unfold boundedT
      simp only [Prod.mk.injEq]
      constructor <;> first | omega | trivial | rfl
  · rw [if_neg c, if_neg c]
    by_cases c2 : p = "edge" ∧ 0 ≤ placeT h t l ∧ ¬ l = e
    · rw [if_pos c2, if_pos ⟨c2.1, hpl.mpr c2.2.1, by have := c2.2.2; omega⟩]
    · rw [if_neg c2, if_neg (fun z => c2 ⟨z.1, hpl.mp z.2.1, by have := z.2.2; omega⟩)]
      unfold boundedT
      simp only [Prod.mk.injEq]
      constructor <;> first | omega | trivial | rfl
theorem wheelT_mir {v : Str} {r h t l more : Int} (sh : Shape r h) (va : Val r h t l) : wheelT v r h (r - h - t) (r - 1 - l) (-more) = (r - h - (wheelT v r h t l more).1, r - 1 - (wheelT v r h t l more).2) := by
  obtain ⟨s1, s2, s3, s4, s5⟩ := sh
  obtain ⟨v1, v2, v3, v4⟩ := va
  unfold wheelT boundedT
  by_cases c : v = "taken" <;> simp only [c, if_true, if_false, Prod.mk.injEq] <;> constructor <;> first | omega | trivial | rfl
def turnD (h : Int) (d : D) : D := match d with
  | .tup [.str _, .int i] => .tup [.str "click", .int (h - 1 - i)]
  | .tup [.str x] =>
    if x = "up" then .tup [.str "down"] else if x = "down" then .tup [.str "up"] else if x = "home" then .tup [.str "end"] else if x = "end" then .tup [.str "home"]
    else if x = "pageup" then .tup [.str "pagedown"] else if x = "pagedown" then .tup [.str "pageup"] else if x = "wheelup" then .tup [.str "wheeldown"] else .tup [.str "wheelup"]
  | d => d
theorem turnD_ok {h : Int} {d : D} (hd : Deed h d) : Deed h (turnD h d) := by
  cases hd
  case click i h1 h2 => exact .click _ (by omega) (by omega)
  all_goals simp [turnD]
  · exact .down
  · exact .up
  · exact .end_
  · exact .home
  · exact .pagedown
  · exact .pageup
  · exact .wheeldown
  · exact .wheelup
theorem stepT_mir {f s p : Str} (hf : Evn f) {m : Int} (h2 : m = 0 ∨ m = 1) {v b : Str} {r h t l : Int} (sh : Shape r h) (va : Val r h t l) {d : D} (hd : Deed h d) :
    stepT f s p m v b r h (r - h - t) (r - 1 - l) (turnD h d) = (r - h - (stepT f s p m v b r h t l d).1, r - 1 - (stepT f s p m v b r h t l d).2) := by
  have tm : ∀ {t' l' : Int}, Val r h t' l' → topT f r h (r - h - t') (r - 1 - l') = r - h - topT f r h t' l' := fun z => topT_mir hf sh z
  have a1 := arrowL_ok (m := m) (b := b) sh va (.inl rfl)
  have a2 := arrowL_ok (m := m) (b := b) sh va (.inr rfl)
  have am1 := arrowL_mir (m := m) (b := b) sh va (.inl rfl) h2
  have am2 := arrowL_mir (m := m) (b := b) sh va (.inr rfl) h2
  have pm1 := pageT_mir (s := s) (p := p) sh va (.inl rfl)
  have pm2 := pageT_mir (s := s) (p := p) sh va (.inr rfl)
  have wm1 := wheelT_mir (v := v) (more := 1) sh va
  have wm2 := wheelT_mir (v := v) (more := -1) sh va
  have s1 := sh.1
  rw [show (- -1 : Int) = 1 from rfl] at am2 pm2 wm2
  cases hd
  case click i h1 h3 =>
    show (r - h - t, r - h - t + (h - 1 - i)) = (r - h - t, r - 1 - (t + i))
    simp only [Prod.mk.injEq]
    refine ⟨trivial, by omega⟩
  case up => simp [turnD, stepT, am2, tm ⟨va.1, va.2.1, a2⟩]
  case down => simp [turnD, stepT, am1, tm ⟨va.1, va.2.1, a1⟩]
  case home =>
    have := tm (t' := t) (l' := 0) ⟨va.1, va.2.1, by omega⟩
    rw [show r - 1 - 0 = r - 1 by omega] at this
    simp [turnD, stepT, this]
  case end_ =>
    have := tm (t' := t) (l' := r - 1) ⟨va.1, va.2.1, by omega⟩
    rw [show r - 1 - (r - 1) = 0 by omega] at this
    simp [turnD, stepT, this]
  case pageup => simp [turnD, stepT, pm2, tm (pageT_ok sh va)]
  case pagedown => simp [turnD, stepT, pm1, tm (pageT_ok sh va)]
  case wheelup => simp [turnD, stepT, wm2]
  case wheeldown => simp [turnD, stepT, wm1]
theorem l_turned (k : Nat) {r h : Int} {d : D} (hd : Deed h d) (w : Wd) : run Pr sub (k + 1) 29 [tp2 r h, d] w = .ok (turnD h d) w := by
  cases hd with
  | click i _ _ =>
    rw [u__law_turned]
    simp [b29, turnD]
  | _ => kernel_rfl

/-! ## windows that follow -/
theorem lastS_fold (f s p : Str) (m : Int) (v b : Str) (r h : Int) (row : List D) : lastS f s p m v b r h row = row.foldl (stepD f s p m v b r h) (tp2 0 0) := scan_last _ _ _
theorem lastS_app (f s p : Str) (m : Int) (v b : Str) (r h : Int) (row : List D) (d : D) : lastS f s p m v b r h (row ++ [d]) = stepD f s p m v b r h (lastS f s p m v b r h row) d := by
  rw [lastS_fold, lastS_fold, List.foldl_append]; rfl
theorem lastS_ok {f s p v b : Str} {m r h : Int} {row : List D} (sh : Shape r h) (hr : ∀ d ∈ row, Deed h d) : ValD r h (lastS f s p m v b r h row) := by
  unfold lastS
  rcases List.mem_cons.mp (lastD_mem (scanT (stepD f s p m v b r h) (tp2 0 0) row) (tp2 0 0)) with e | hm
  · rw [e]; exact val0 sh
  · exact scan_all (stepD f s p m v b r h) (P := ValD r h) (Q := Deed h) (fun x d => stepD_ok sh x d) row _ (val0 sh) hr _ hm
structure FolT (f : Str) (r h t a c : Int) : Prop where
  c1 : a ≤ c
  c2 : c < a + h
  le : f = "least" → a ≠ t → (c = a ∨ c = a + h - 1)
  pg : f = "page" → a ≠ t → (a % h = 0 ∨ a = r - h)
  mi : f = "middle" → a ≠ t → (c - a = h / 2 ∨ a = 0 ∨ a = r - h)
  ma : f = "margin" → 2 < h → ¬ ((a = c ∧ 0 < c) ∨ (c = a + h - 1 ∧ c < r - 1))
theorem folT {f : Str} {r h t l : Int} (sh : Shape r h) (va : Val r h t l) : FolT f r h t (topT f r h t l) l := by
  obtain ⟨k1, k2, k3⟩ := topT_ok (f := f) sh va
  obtain ⟨s1, s2, s3, s4, s5⟩ := sh
  obtain ⟨v1, v2, v3, v4⟩ := va
  have hh : h = 2 ∨ h = 3 ∨ h = 4 := by omega
  refine ⟨k2, k3, ?_, ?_, ?_, ?_⟩
  · rintro rfl
    unfold topT moreT
    simp
    omega
  · rintro rfl
    unfold topT placeT
    simp
    rcases hh with rfl | rfl | rfl <;> (repeat' split) <;> omega
  · rintro rfl
    unfold topT placeT boundedT
    simp
    rcases hh with rfl | rfl | rfl <;> (repeat' split) <;> omega
  · rintro rfl h2
    unfold topT moreT
    simp [h2]
    omega
theorem f_turn (F : Nat → List D → Wd → Res D) {f s p v b : Str} {m r h t l a c : Int} (hf : Fol f) (h0 : 0 < h) (ft : FolT f r h t a c) (x : Str) (row : List D) (hl : row.length ≤ 1000) (a0 a5 a6 a9 a10 a11 : Option D) (w : Wd)
    (hs : F 20 [wayD f s p m v b, tp2 r h, .lst (row ++ [.tup [.str x]])] w = .ok (tp2 a c) (w ++ [.dead])) :
    evSs F sub (.cons (.asg (.tup (.cons (.nm 9) (.cons (.nm 10) .nil))) (.call 20 (.cons (.var 1) (.cons (.var 2) (.cons (.bin .add (.var 3) (.lst (.cons (.tup (.cons (.var 4) .nil)) .nil))) .nil))))) (.cons (.ite (.nt (.chain .le .lt (.var 9) (.var 10) (.bin .add (.var 9) (.ix (.var 2) (.con (.int 1)))))) (.cons (.ret (.con (.bl false))) .nil) .nil) (.cons (.ite (.and_ (.cmp .eq (.ix (.var 1) (.con (.int 0))) (.con (.str "least"))) (.cons (.cmp .ne (.var 9) (.var 7)) (.cons (.cmp .notin (.var 10) (.tup (.cons (.var 9) (.cons (.bin .sub (.bin .add (.var 9) (.ix (.var 2) (.con (.int 1)))) (.con (.int 1))) .nil)))) .nil))) (.cons (.ret (.con (.bl false))) .nil) .nil) (.cons (.ite (.and_ (.cmp .eq (.ix (.var 1) (.con (.int 0))) (.con (.str "page"))) (.cons (.cmp .ne (.var 9) (.var 7)) (.cons (.cmp .ne (.bin .mod (.var 9) (.ix (.var 2) (.con (.int 1)))) (.con (.int 0))) (.cons (.cmp .ne (.var 9) (.bin .sub (.ix (.var 2) (.con (.int 0))) (.ix (.var 2) (.con (.int 1))))) .nil)))) (.cons (.ret (.con (.bl false))) .nil) .nil) (.cons (.ite (.and_ (.cmp .eq (.ix (.var 1) (.con (.int 0))) (.con (.str "middle"))) (.cons (.cmp .ne (.var 9) (.var 7)) (.cons (.cmp .ne (.bin .sub (.var 10) (.var 9)) (.bin .fdiv (.ix (.var 2) (.con (.int 1))) (.con (.int 2)))) (.cons (.cmp .notin (.var 9) (.tup (.cons (.con (.int 0)) (.cons (.bin .sub (.ix (.var 2) (.con (.int 0))) (.ix (.var 2) (.con (.int 1)))) .nil)))) .nil)))) (.cons (.ret (.con (.bl false))) .nil) .nil) (.cons (.ite (.and_ (.cmp .eq (.ix (.var 1) (.con (.int 0))) (.con (.str "margin"))) (.cons (.cmp .gt (.ix (.var 2) (.con (.int 1))) (.con (.int 2))) (.cons (.or_ (.and_ (.cmp .eq (.var 9) (.var 10)) (.cons (.cmp .gt (.var 10) (.con (.int 0))) .nil)) (.cons (.and_ (.cmp .eq (.var 10) (.bin .sub (.bin .add (.var 9) (.ix (.var 2) (.con (.int 1)))) (.con (.int 1)))) (.cons (.cmp .lt (.var 10) (.bin .sub (.ix (.var 2) (.con (.int 0))) (.con (.int 1)))) .nil)) .nil)) .nil))) (.cons (.ret (.con (.bl false))) .nil) .nil) .nil)))))) [a0, some (wayD f s p m v b), some (tp2 r h), some (.lst row), some (.str x), a5, a6, some (.int t), some (.int l), a9, a10, a11] w =
      .nx [a0, some (wayD f s p m v b), some (tp2 r h), some (.lst row), some (.str x), a5, a6, some (.int t), some (.int l), some (.int a), some (.int c), a11] (w ++ [.dead]) := by
  have ad := add_lst (w := w) row [.tup [.str x]] (by unfold line; simp; omega)
  obtain ⟨c1, c2, le, pg, mi, ma⟩ := ft
  have n1 : ∀ y z : Int, y = z → decide (y = z) = true := fun y z e => decide_eq_true e
  rcases hf with rfl | rfl | rfl | rfl
  · have le := le rfl
    by_cases q : a = t
    · subst q
      simp [ad, hs, c1, c2]
    · have e := le q
      simp [ad, hs, c1, c2, q, cop_nini2, e]
  · have pg := pg rfl
    by_cases q : a = t
    · subst q
      simp [ad, hs, c1, c2]
    · by_cases e2 : a % h = 0
      · simp [ad, hs, c1, c2, q, bin_mod, h0, e2]
      · have e : a = r - h := (pg q).resolve_left e2
        simp [ad, hs, c1, c2, q, bin_mod, h0, e2, ← e]
  · have mi := mi rfl
    by_cases q : a = t
    · subst q
      simp [ad, hs, c1, c2]
    · by_cases e2 : c - a = h / 2
      · simp [ad, hs, c1, c2, q, bin_fdiv, e2]
      · have e := (mi q).resolve_left e2
        simp [ad, hs, c1, c2, q, bin_fdiv, e2, cop_nini2, e]
  · have ma := ma rfl
    by_cases h2 : 2 < h
    · have ma := ma h2
      by_cases e1 : a = c
      · have e2 : ¬ 0 < c := fun z => ma (.inl ⟨e1, z⟩)
        by_cases e3 : c = a + h - 1
        · omega
        · have q1 : ¬ c + h ≤ c := by omega
          have q2 : ¬ c = c + h - 1 := by omega
          simp [ad, hs, c1, c2, h2, e1, e2, q1, q2]
      · by_cases e3 : c = a + h - 1
        · have e4 : ¬ c < r - 1 := fun z => ma (.inr ⟨e3, z⟩)
          simp [ad, hs, c1, c2, h2, e1, e4]
        · simp [ad, hs, c1, c2, h2, e1, e3]
    · simp [ad, hs, c1, c2, h2]

def Arr (d : D) : Prop := ∃ x : Str, d = .tup [.str x] ∧ (x = "up" ∨ x = "down" ∨ x = "home" ∨ x = "end")
theorem arr_deed {h : Int} {d : D} (ha : Arr d) : Deed h d := by
  obtain ⟨x, rfl, rfl | rfl | rfl | rfl⟩ := ha
  · exact .up
  · exact .down
  · exact .home
  · exact .end_
theorem arr_step {f s p v b : Str} {m r h t l : Int} {d : D} (ha : Arr d) (sh : Shape r h) (va : Val r h t l) : FolT f r h t (stepT f s p m v b r h t l d).1 (stepT f s p m v b r h t l d).2 := by
  have a1 := arrowL_ok (m := m) (b := b) sh va (.inl rfl)
  have a2 := arrowL_ok (m := m) (b := b) sh va (.inr rfl)
  have s1 := sh.1
  obtain ⟨x, rfl, rfl | rfl | rfl | rfl⟩ := ha
  · simp [stepT]; exact folT sh ⟨va.1, va.2.1, a2⟩
  · simp [stepT]; exact folT sh ⟨va.1, va.2.1, a1⟩
  · simp [stepT]; exact folT sh ⟨va.1, va.2.1, by omega⟩
  · simp [stepT]; exact folT sh ⟨va.1, va.2.1, by omega⟩
theorem inwin_taken {f s p b : Str} {m r h t l : Int} {d : D} (sh : Shape r h) (va : Val r h t l) (hd : Deed h d) :
    (stepT f s p m "taken" b r h t l d).1 ≤ (stepT f s p m "taken" b r h t l d).2 ∧ (stepT f s p m "taken" b r h t l d).2 < (stepT f s p m "taken" b r h t l d).1 + h := by
  have fo : ∀ {t' l' : Int}, Val r h t' l' → topT f r h t' l' ≤ l' ∧ l' < topT f r h t' l' + h := fun z => (topT_ok sh z).2
  have a1 := arrowL_ok (m := m) (b := b) sh va (.inl rfl)
  have a2 := arrowL_ok (m := m) (b := b) sh va (.inr rfl)
  have s1 := sh.1
  have wt : ∀ more : Int, (wheelT "taken" r h t l more).1 ≤ (wheelT "taken" r h t l more).2 ∧ (wheelT "taken" r h t l more).2 < (wheelT "taken" r h t l more).1 + h := by
    intro more
    obtain ⟨s1, s2, s3, s4, s5⟩ := sh
    unfold wheelT boundedT
    simp only [if_true]
    omega
  unfold stepT
  cases hd
  case up => simp; exact fo ⟨va.1, va.2.1, a2⟩
  case down => simp; exact fo ⟨va.1, va.2.1, a1⟩
  case home => simp; exact fo ⟨va.1, va.2.1, by omega⟩
  case end_ => simp; exact fo ⟨va.1, va.2.1, by omega⟩
  case pageup => simp; exact fo (pageT_ok sh va)
  case pagedown => simp; exact fo (pageT_ok sh va)
  case wheelup => simp; exact wt _
  case wheeldown => simp; exact wt _
  case click i h1 h2 => show t ≤ t + i ∧ t + i < t + h; omega
def Win (r h : Int) (x : D) : Prop := ∃ t l, x = tp2 t l ∧ Val r h t l ∧ t ≤ l ∧ l < t + h
theorem taken_all {f s p b : Str} {m r h : Int} (sh : Shape r h) {row : List D} (hr : ∀ d ∈ row, Deed h d) : ∀ y ∈ statesD f s p m "taken" b r h row, Win r h y := by
  have w0 : Win r h (tp2 0 0) := by
    obtain ⟨s1, s2, s3, s4, s5⟩ := sh
    exact ⟨0, 0, rfl, ⟨by omega, by omega, by omega, by omega⟩, by omega, by omega⟩
  intro y hy
  rcases List.mem_cons.mp hy with rfl | hy
  · exact w0
  · exact scan_all (stepD f s p m "taken" b r h) (P := Win r h) (Q := Deed h) (fun x d ⟨t, l, e, va, _⟩ hd => by
      subst e
      exact ⟨_, _, rfl, stepT_ok sh va hd, inwin_taken sh va hd⟩) row _ w0 hr y hy
theorem r_follows (k : Nat) {f s p v b : Str} {m : Int} (hf : Fol f) (hs : Stp s) (hp : Pag p) (hm : m = 0 ∨ m = 1) (hv : Whe v) (hb : Bck b) {r h : Int} (sh : Shape r h) (w : Wd) (a0 : D) {row : List D} (hr : ∀ d ∈ row, Deed h d) (hl : row.length ≤ 39) :
    run Pr sub (k + 8) 30 [a0, wayD f s p m v b, tp2 r h, .lst row] w = .ok (.bl true) (w ++ [.dead] ++ [.dead] ++ [.dead] ++ [.dead] ++ [.dead] ++ [.dead]) := by
  obtain ⟨t, l, el, va⟩ := lastS_ok (f := f) (s := s) (p := p) (v := v) (b := b) (m := m) sh hr
  have h0 : 0 < h := by obtain ⟨_, _, z, _⟩ := sh; omega
  have sf : ∀ w, run Pr sub (k + 7) 20 [wayD f s p m v b, tp2 r h, .lst row] w = .ok (tp2 t l) (w ++ [.dead]) := fun w => by
    rw [← el]; exact r_state_after k hf hs hp hm hv hb sh w hr (by omega)
  have one : ∀ (x : Str), Arr (.tup [.str x]) → ∀ w, run Pr sub (k + 7) 20 [wayD f s p m v b, tp2 r h, .lst (row ++ [.tup [.str x]])] w = .ok (tp2 (stepT f s p m v b r h t l (.tup [.str x])).1 (stepT f s p m v b r h t l (.tup [.str x])).2) (w ++ [.dead]) := fun x hx w => by
    have z := r_state_after k hf hs hp hm hv hb sh w (row := row ++ [.tup [.str x]]) (fun d hd => by
      rcases List.mem_append.mp hd with hd | hd
      · exact hr d hd
      · rw [List.mem_singleton.mp hd]; exact arr_deed hx) (by simp; omega)
    rw [lastS_app, el] at z
    exact z
  have tn : ∀ (x : Str), Arr (.tup [.str x]) → ∀ (a5 a6 a9 a10 a11 : Option D) (w : Wd), _ := fun x hx a5 a6 a9 a10 a11 w => f_turn (run Pr sub (k + 7)) (s := s) (p := p) (v := v) (b := b) (m := m) (l := l) hf h0 (arr_step (f := f) (s := s) (p := p) (v := v) (b := b) (m := m) hx sh va) x row (by omega) (some a0) a5 a6 a9 a10 a11 w (one x hx w)
  have u1 := tn "up" ⟨_, rfl, .inl rfl⟩
  have u2 := tn "down" ⟨_, rfl, .inr (.inl rfl)⟩
  have u3 := tn "home" ⟨_, rfl, .inr (.inr (.inl rfl))⟩
  have u4 := tn "end" ⟨_, rfl, .inr (.inr (.inr rfl))⟩
  have lp : ∀ w, ∃ q9 q10, forL (.nm 4) (evSs (run Pr sub (k + 7)) sub (.cons (.asg (.tup (.cons (.nm 9) (.cons (.nm 10) .nil))) (.call 20 (.cons (.var 1) (.cons (.var 2) (.cons (.bin .add (.var 3) (.lst (.cons (.tup (.cons (.var 4) .nil)) .nil))) .nil))))) (.cons (.ite (.nt (.chain .le .lt (.var 9) (.var 10) (.bin .add (.var 9) (.ix (.var 2) (.con (.int 1)))))) (.cons (.ret (.con (.bl false))) .nil) .nil) (.cons (.ite (.and_ (.cmp .eq (.ix (.var 1) (.con (.int 0))) (.con (.str "least"))) (.cons (.cmp .ne (.var 9) (.var 7)) (.cons (.cmp .notin (.var 10) (.tup (.cons (.var 9) (.cons (.bin .sub (.bin .add (.var 9) (.ix (.var 2) (.con (.int 1)))) (.con (.int 1))) .nil)))) .nil))) (.cons (.ret (.con (.bl false))) .nil) .nil) (.cons (.ite (.and_ (.cmp .eq (.ix (.var 1) (.con (.int 0))) (.con (.str "page"))) (.cons (.cmp .ne (.var 9) (.var 7)) (.cons (.cmp .ne (.bin .mod (.var 9) (.ix (.var 2) (.con (.int 1)))) (.con (.int 0))) (.cons (.cmp .ne (.var 9) (.bin .sub (.ix (.var 2) (.con (.int 0))) (.ix (.var 2) (.con (.int 1))))) .nil)))) (.cons (.ret (.con (.bl false))) .nil) .nil) (.cons (.ite (.and_ (.cmp .eq (.ix (.var 1) (.con (.int 0))) (.con (.str "middle"))) (.cons (.cmp .ne (.var 9) (.var 7)) (.cons (.cmp .ne (.bin .sub (.var 10) (.var 9)) (.bin .fdiv (.ix (.var 2) (.con (.int 1))) (.con (.int 2)))) (.cons (.cmp .notin (.var 9) (.tup (.cons (.con (.int 0)) (.cons (.bin .sub (.ix (.var 2) (.con (.int 0))) (.ix (.var 2) (.con (.int 1)))) .nil)))) .nil)))) (.cons (.ret (.con (.bl false))) .nil) .nil) (.cons (.ite (.and_ (.cmp .eq (.ix (.var 1) (.con (.int 0))) (.con (.str "margin"))) (.cons (.cmp .gt (.ix (.var 2) (.con (.int 1))) (.con (.int 2))) (.cons (.or_ (.and_ (.cmp .eq (.var 9) (.var 10)) (.cons (.cmp .gt (.var 10) (.con (.int 0))) .nil)) (.cons (.and_ (.cmp .eq (.var 10) (.bin .sub (.bin .add (.var 9) (.ix (.var 2) (.con (.int 1)))) (.con (.int 1)))) (.cons (.cmp .lt (.var 10) (.bin .sub (.ix (.var 2) (.con (.int 0))) (.con (.int 1)))) .nil)) .nil)) .nil))) (.cons (.ret (.con (.bl false))) .nil) .nil) .nil))))))) [.str "up", .str "down", .str "home", .str "end"] [some a0, some (wayD f s p m v b), some (tp2 r h), some (.lst row), none, none, none, some (.int t), some (.int l), none, none, none] w =
      .nx [some a0, some (wayD f s p m v b), some (tp2 r h), some (.lst row), some (.str "end"), none, none, some (.int t), some (.int l), q9, q10, none] (w ++ [.dead] ++ [.dead] ++ [.dead] ++ [.dead]) := by
    intro w
    refine ⟨some (.int (stepT f s p m v b r h t l (.tup [.str "end"])).1), some (.int (stepT f s p m v b r h t l (.tup [.str "end"])).2), ?_⟩
    rw [forL]
    show SR.turn (evSs (run Pr sub (k + 7)) sub (.cons (.asg (.tup (.cons (.nm 9) (.cons (.nm 10) .nil))) (.call 20 (.cons (.var 1) (.cons (.var 2) (.cons (.bin .add (.var 3) (.lst (.cons (.tup (.cons (.var 4) .nil)) .nil))) .nil))))) (.cons (.ite (.nt (.chain .le .lt (.var 9) (.var 10) (.bin .add (.var 9) (.ix (.var 2) (.con (.int 1)))))) (.cons (.ret (.con (.bl false))) .nil) .nil) (.cons (.ite (.and_ (.cmp .eq (.ix (.var 1) (.con (.int 0))) (.con (.str "least"))) (.cons (.cmp .ne (.var 9) (.var 7)) (.cons (.cmp .notin (.var 10) (.tup (.cons (.var 9) (.cons (.bin .sub (.bin .add (.var 9) (.ix (.var 2) (.con (.int 1)))) (.con (.int 1))) .nil)))) .nil))) (.cons (.ret (.con (.bl false))) .nil) .nil) (.cons (.ite (.and_ (.cmp .eq (.ix (.var 1) (.con (.int 0))) (.con (.str "page"))) (.cons (.cmp .ne (.var 9) (.var 7)) (.cons (.cmp .ne (.bin .mod (.var 9) (.ix (.var 2) (.con (.int 1)))) (.con (.int 0))) (.cons (.cmp .ne (.var 9) (.bin .sub (.ix (.var 2) (.con (.int 0))) (.ix (.var 2) (.con (.int 1))))) .nil)))) (.cons (.ret (.con (.bl false))) .nil) .nil) (.cons (.ite (.and_ (.cmp .eq (.ix (.var 1) (.con (.int 0))) (.con (.str "middle"))) (.cons (.cmp .ne (.var 9) (.var 7)) (.cons (.cmp .ne (.bin .sub (.var 10) (.var 9)) (.bin .fdiv (.ix (.var 2) (.con (.int 1))) (.con (.int 2)))) (.cons (.cmp .notin (.var 9) (.tup (.cons (.con (.int 0)) (.cons (.bin .sub (.ix (.var 2) (.con (.int 0))) (.ix (.var 2) (.con (.int 1)))) .nil)))) .nil)))) (.cons (.ret (.con (.bl false))) .nil) .nil) (.cons (.ite (.and_ (.cmp .eq (.ix (.var 1) (.con (.int 0))) (.con (.str "margin"))) (.cons (.cmp .gt (.ix (.var 2) (.con (.int 1))) (.con (.int 2))) (.cons (.or_ (.and_ (.cmp .eq (.var 9) (.var 10)) (.cons (.cmp .gt (.var 10) (.con (.int 0))) .nil)) (.cons (.and_ (.cmp .eq (.var 10) (.bin .sub (.bin .add (.var 9) (.ix (.var 2) (.con (.int 1)))) (.con (.int 1)))) (.cons (.cmp .lt (.var 10) (.bin .sub (.ix (.var 2) (.con (.int 0))) (.con (.int 1)))) .nil)) .nil)) .nil))) (.cons (.ret (.con (.bl false))) .nil) .nil) .nil)))))) [some a0, some (wayD f s p m v b), some (tp2 r h), some (.lst row), some (.str "up"), none, none, some (.int t), some (.int l), none, none, none] w) _ = _
    rw [u1, SR.turn_nx, forL]
    show SR.turn (evSs (run Pr sub (k + 7)) sub (.cons (.asg (.tup (.cons (.nm 9) (.cons (.nm 10) .nil))) (.call 20 (.cons (.var 1) (.cons (.var 2) (.cons (.bin .add (.var 3) (.lst (.cons (.tup (.cons (.var 4) .nil)) .nil))) .nil))))) (.cons (.ite (.nt (.chain .le .lt (.var 9) (.var 10) (.bin .add (.var 9) (.ix (.var 2) (.con (.int 1)))))) (.cons (.ret (.con (.bl false))) .nil) .nil) (.cons (.ite (.and_ (.cmp .eq (.ix (.var 1) (.con (.int 0))) (.con (.str "least"))) (.cons (.cmp .ne (.var 9) (.var 7)) (.cons (.cmp .notin (.var 10) (.tup (.cons (.var 9) (.cons (.bin .sub (.bin .add (.var 9) (.ix (.var 2) (.con (.int 1)))) (.con (.int 1))) .nil)))) .nil))) (.cons (.ret (.con (.bl false))) .nil) .nil) (.cons (.ite (.and_ (.cmp .eq (.ix (.var 1) (.con (.int 0))) (.con (.str "page"))) (.cons (.cmp .ne (.var 9) (.var 7)) (.cons (.cmp .ne (.bin .mod (.var 9) (.ix (.var 2) (.con (.int 1)))) (.con (.int 0))) (.cons (.cmp .ne (.var 9) (.bin .sub (.ix (.var 2) (.con (.int 0))) (.ix (.var 2) (.con (.int 1))))) .nil)))) (.cons (.ret (.con (.bl false))) .nil) .nil) (.cons (.ite (.and_ (.cmp .eq (.ix (.var 1) (.con (.int 0))) (.con (.str "middle"))) (.cons (.cmp .ne (.var 9) (.var 7)) (.cons (.cmp .ne (.bin .sub (.var 10) (.var 9)) (.bin .fdiv (.ix (.var 2) (.con (.int 1))) (.con (.int 2)))) (.cons (.cmp .notin (.var 9) (.tup (.cons (.con (.int 0)) (.cons (.bin .sub (.ix (.var 2) (.con (.int 0))) (.ix (.var 2) (.con (.int 1)))) .nil)))) .nil)))) (.cons (.ret (.con (.bl false))) .nil) .nil) (.cons (.ite (.and_ (.cmp .eq (.ix (.var 1) (.con (.int 0))) (.con (.str "margin"))) (.cons (.cmp .gt (.ix (.var 2) (.con (.int 1))) (.con (.int 2))) (.cons (.or_ (.and_ (.cmp .eq (.var 9) (.var 10)) (.cons (.cmp .gt (.var 10) (.con (.int 0))) .nil)) (.cons (.and_ (.cmp .eq (.var 10) (.bin .sub (.bin .add (.var 9) (.ix (.var 2) (.con (.int 1)))) (.con (.int 1)))) (.cons (.cmp .lt (.var 10) (.bin .sub (.ix (.var 2) (.con (.int 0))) (.con (.int 1)))) .nil)) .nil)) .nil))) (.cons (.ret (.con (.bl false))) .nil) .nil) .nil)))))) [some a0, some (wayD f s p m v b), some (tp2 r h), some (.lst row), some (.str "down"), none, none, some (.int t), some (.int l), _, _, none] _) _ = _
    rw [u2, SR.turn_nx, forL]
    show SR.turn (evSs (run Pr sub (k + 7)) sub (.cons (.asg (.tup (.cons (.nm 9) (.cons (.nm 10) .nil))) (.call 20 (.cons (.var 1) (.cons (.var 2) (.cons (.bin .add (.var 3) (.lst (.cons (.tup (.cons (.var 4) .nil)) .nil))) .nil))))) (.cons (.ite (.nt (.chain .le .lt (.var 9) (.var 10) (.bin .add (.var 9) (.ix (.var 2) (.con (.int 1)))))) (.cons (.ret (.con (.bl false))) .nil) .nil) (.cons (.ite (.and_ (.cmp .eq (.ix (.var 1) (.con (.int 0))) (.con (.str "least"))) (.cons (.cmp .ne (.var 9) (.var 7)) (.cons (.cmp .notin (.var 10) (.tup (.cons (.var 9) (.cons (.bin .sub (.bin .add (.var 9) (.ix (.var 2) (.con (.int 1)))) (.con (.int 1))) .nil)))) .nil))) (.cons (.ret (.con (.bl false))) .nil) .nil) (.cons (.ite (.and_ (.cmp .eq (.ix (.var 1) (.con (.int 0))) (.con (.str "page"))) (.cons (.cmp .ne (.var 9) (.var 7)) (.cons (.cmp .ne (.bin .mod (.var 9) (.ix (.var 2) (.con (.int 1)))) (.con (.int 0))) (.cons (.cmp .ne (.var 9) (.bin .sub (.ix (.var 2) (.con (.int 0))) (.ix (.var 2) (.con (.int 1))))) .nil)))) (.cons (.ret (.con (.bl false))) .nil) .nil) (.cons (.ite (.and_ (.cmp .eq (.ix (.var 1) (.con (.int 0))) (.con (.str "middle"))) (.cons (.cmp .ne (.var 9) (.var 7)) (.cons (.cmp .ne (.bin .sub (.var 10) (.var 9)) (.bin .fdiv (.ix (.var 2) (.con (.int 1))) (.con (.int 2)))) (.cons (.cmp .notin (.var 9) (.tup (.cons (.con (.int 0)) (.cons (.bin .sub (.ix (.var 2) (.con (.int 0))) (.ix (.var 2) (.con (.int 1)))) .nil)))) .nil)))) (.cons (.ret (.con (.bl false))) .nil) .nil) (.cons (.ite (.and_ (.cmp .eq (.ix (.var 1) (.con (.int 0))) (.con (.str "margin"))) (.cons (.cmp .gt (.ix (.var 2) (.con (.int 1))) (.con (.int 2))) (.cons (.or_ (.and_ (.cmp .eq (.var 9) (.var 10)) (.cons (.cmp .gt (.var 10) (.con (.int 0))) .nil)) (.cons (.and_ (.cmp .eq (.var 10) (.bin .sub (.bin .add (.var 9) (.ix (.var 2) (.con (.int 1)))) (.con (.int 1)))) (.cons (.cmp .lt (.var 10) (.bin .sub (.ix (.var 2) (.con (.int 0))) (.con (.int 1)))) .nil)) .nil)) .nil))) (.cons (.ret (.con (.bl false))) .nil) .nil) .nil)))))) [some a0, some (wayD f s p m v b), some (tp2 r h), some (.lst row), some (.str "home"), none, none, some (.int t), some (.int l), _, _, none] _) _ = _
    rw [u3, SR.turn_nx, forL]
    show SR.turn (evSs (run Pr sub (k + 7)) sub (.cons (.asg (.tup (.cons (.nm 9) (.cons (.nm 10) .nil))) (.call 20 (.cons (.var 1) (.cons (.var 2) (.cons (.bin .add (.var 3) (.lst (.cons (.tup (.cons (.var 4) .nil)) .nil))) .nil))))) (.cons (.ite (.nt (.chain .le .lt (.var 9) (.var 10) (.bin .add (.var 9) (.ix (.var 2) (.con (.int 1)))))) (.cons (.ret (.con (.bl false))) .nil) .nil) (.cons (.ite (.and_ (.cmp .eq (.ix (.var 1) (.con (.int 0))) (.con (.str "least"))) (.cons (.cmp .ne (.var 9) (.var 7)) (.cons (.cmp .notin (.var 10) (.tup (.cons (.var 9) (.cons (.bin .sub (.bin .add (.var 9) (.ix (.var 2) (.con (.int 1)))) (.con (.int 1))) .nil)))) .nil))) (.cons (.ret (.con (.bl false))) .nil) .nil) (.cons (.ite (.and_ (.cmp .eq (.ix (.var 1) (.con (.int 0))) (.con (.str "page"))) (.cons (.cmp .ne (.var 9) (.var 7)) (.cons (.cmp .ne (.bin .mod (.var 9) (.ix (.var 2) (.con (.int 1)))) (.con (.int 0))) (.cons (.cmp .ne (.var 9) (.bin .sub (.ix (.var 2) (.con (.int 0))) (.ix (.var 2) (.con (.int 1))))) .nil)))) (.cons (.ret (.con (.bl false))) .nil) .nil) (.cons (.ite (.and_ (.cmp .eq (.ix (.var 1) (.con (.int 0))) (.con (.str "middle"))) (.cons (.cmp .ne (.var 9) (.var 7)) (.cons (.cmp .ne (.bin .sub (.var 10) (.var 9)) (.bin .fdiv (.ix (.var 2) (.con (.int 1))) (.con (.int 2)))) (.cons (.cmp .notin (.var 9) (.tup (.cons (.con (.int 0)) (.cons (.bin .sub (.ix (.var 2) (.con (.int 0))) (.ix (.var 2) (.con (.int 1)))) .nil)))) .nil)))) (.cons (.ret (.con (.bl false))) .nil) .nil) (.cons (.ite (.and_ (.cmp .eq (.ix (.var 1) (.con (.int 0))) (.con (.str "margin"))) (.cons (.cmp .gt (.ix (.var 2) (.con (.int 1))) (.con (.int 2))) (.cons (.or_ (.and_ (.cmp .eq (.var 9) (.var 10)) (.cons (.cmp .gt (.var 10) (.con (.int 0))) .nil)) (.cons (.and_ (.cmp .eq (.var 10) (.bin .sub (.bin .add (.var 9) (.ix (.var 2) (.con (.int 1)))) (.con (.int 1)))) (.cons (.cmp .lt (.var 10) (.bin .sub (.ix (.var 2) (.con (.int 0))) (.con (.int 1)))) .nil)) .nil)) .nil))) (.cons (.ret (.con (.bl false))) .nil) .nil) .nil)))))) [some a0, some (wayD f s p m v b), some (tp2 r h), some (.lst row), some (.str "end"), none, none, some (.int t), some (.int l), _, _, none] _) _ = _
    rw [u4, SR.turn_nx, forL]
  have sa := fun w => r_states_along (k + 1) hf hs hp hm (v := "taken") (.inr rfl) hb sh w hr (by omega)
  have win := taken_all (f := f) (s := s) (p := p) (b := b) (m := m) sh hr
  have p0 : Pu 60 (.lst []) := ⟨1, by rfl, by decide⟩
  obtain ⟨q9, q10, lp⟩ := lp (w ++ [.dead])
  have lc := fun w => lc_none (ρ := [some a0, some (wayD f s p m v b), some (tp2 r h), some (.lst row), some (.str "end"), some (wayD f s p m "taken" b), some (.lst (statesD f s p m "taken" b r h row)), some (.int t), some (.int l), q9, q10, none]) (t := 11)
    (c := evE (run Pr sub (k + 7)) (.nt (.chain .le .lt (.ix (.var 11) (.con (.int 0))) (.ix (.var 11) (.con (.int 1))) (.bin .add (.ix (.var 11) (.con (.int 0))) (.ix (.var 2) (.con (.int 1))))))) (f := evE (run Pr sub (k + 7)) (.var 11)) (w := w) (by simp) (statesD f s p m "taken" b r h row) [] (fun d hd => by
      obtain ⟨t', l', rfl, _, w1, w2⟩ := win d hd
      simp [w1, w2])
  have key : evSs (run Pr sub (k + 7)) sub b30 [some a0, some (wayD f s p m v b), some (tp2 r h), some (.lst row), none, none, none, none, none, none, none, none] w = .rt (.bl true) (w ++ [.dead] ++ [.dead] ++ [.dead] ++ [.dead] ++ [.dead] ++ [.dead]) := by
    unfold b30
    rw [step_nx (ρ' := [some a0, some (wayD f s p m v b), some (tp2 r h), some (.lst row), none, none, none, some (.int t), some (.int l), none, none, none]) (w' := w ++ [.dead]) (by simp [sf])]
    rw [step_nx (ρ' := [some a0, some (wayD f s p m v b), some (tp2 r h), some (.lst row), some (.str "end"), none, none, some (.int t), some (.int l), q9, q10, none]) (w' := w ++ [.dead] ++ [.dead] ++ [.dead] ++ [.dead] ++ [.dead]) (by
      rw [evS_for, evIt_val, evE_tup, evEs_cons, evE_con, Res.bind_ok, evEs_cons, evE_con, Res.bind_ok, evEs_cons, evE_con, Res.bind_ok, evEs_cons, evE_con, Res.bind_ok, evEs_nil, Res.bind_ok, Res.bind_ok, Res.bind_ok, Res.bind_ok, Res.bind_ok, Res.bind_ok]
      show ((Res.of (some [D.str "up", D.str "down", D.str "home", D.str "end"]) (w ++ [.dead])).sr _ _) = _
      rw [Res.of_some, Res.sr_ok]
      exact lp)]
    rw [step_nx (ρ' := [some a0, some (wayD f s p m v b), some (tp2 r h), some (.lst row), some (.str "end"), some (wayD f s p m "taken" b), none, some (.int t), some (.int l), q9, q10, none]) (w' := w ++ [.dead] ++ [.dead] ++ [.dead] ++ [.dead] ++ [.dead]) (by simp [tslc4, tadd42])]
    rw [step_nx (ρ' := [some a0, some (wayD f s p m v b), some (tp2 r h), some (.lst row), some (.str "end"), some (wayD f s p m "taken" b), some (.lst (statesD f s p m "taken" b r h row)), some (.int t), some (.int l), q9, q10, none]) (w' := w ++ [.dead] ++ [.dead] ++ [.dead] ++ [.dead] ++ [.dead] ++ [.dead]) (by simp [sa])]
    rw [evSs_cons, evS_ret, evE_cmp, evE_lc, evIt_val, evE_var, lk_6, Res.of_some, Res.bind_ok]
    show ((((((Res.of (some (statesD f s p m "taken" b r h row)) (w ++ [.dead] ++ [.dead] ++ [.dead] ++ [.dead] ++ [.dead] ++ [.dead])).bind _).bind _).sr _ _).seq _) = _)
    rw [Res.of_some, Res.bind_ok, lc]
    simp [eq_refl p0]
  rw [u__law_follows, key]
  rfl

def mirD (r h : Int) (x : D) : D := match x with
  | .tup [.int t, .int l] => tp2 (r - h - t) (r - 1 - l)
  | x => x
theorem scan_mir {f s p : Str} (hf : Evn f) {m : Int} (h2 : m = 0 ∨ m = 1) {v b : Str} {r h : Int} (sh : Shape r h) : ∀ (row : List D) (x : D), ValD r h x → (∀ d ∈ row, Deed h d) →
    scanT (stepD f s p m v b r h) (mirD r h x) (row.map (turnD h)) = (scanT (stepD f s p m v b r h) x row).map (mirD r h)
  | [], _, _, _ => rfl
  | d :: row, x, hx, hr => by
    obtain ⟨t, l, rfl, va⟩ := hx
    have hd := hr d (List.mem_cons_self ..)
    have e : stepD f s p m v b r h (mirD r h (tp2 t l)) (turnD h d) = mirD r h (stepD f s p m v b r h (tp2 t l) d) := by
      have z := stepT_mir (s := s) (p := p) hf h2 (v := v) (b := b) sh va hd
      show tp2 (stepT f s p m v b r h (r - h - t) (r - 1 - l) (turnD h d)).1 (stepT f s p m v b r h (r - h - t) (r - 1 - l) (turnD h d)).2 = tp2 (r - h - _) (r - 1 - _)
      rw [z]
    rw [List.map_cons, scanT, scanT, List.map_cons, e, scan_mir hf h2 sh row _ (stepD_ok sh _ d ⟨t, l, rfl, va⟩ hd) fun z hz => hr z (List.mem_cons_of_mem _ hz)]
theorem home0 {f s p : Str} (hf : Evn f) (m : Int) (v b : Str) {r h : Int} (sh : Shape r h) : stepD f s p m v b r h (tp2 0 0) (.tup [.str "home"]) = tp2 0 0 ∧ stepD f s p m v b r h (tp2 0 0) (.tup [.str "end"]) = mirD r h (tp2 0 0) := by
  obtain ⟨s1, s2, s3, s4, s5⟩ := sh
  have hf' : f = "least" ∨ f = "margin" := hf
  have hm : (moreT f h = 0) ∨ (moreT f h = 1 ∧ 2 < h) := by
    unfold moreT
    split
    · rename_i c; exact .inr ⟨rfl, c.2⟩
    · exact .inl rfl
  have e1 : topT f r h 0 0 = 0 := by
    unfold topT
    rw [if_pos hf']
    generalize moreT f h = q at *
    rcases hm with rfl | ⟨rfl, h2⟩ <;> omega
  have e2 : topT f r h 0 (r - 1) = r - h := by
    unfold topT
    rw [if_pos hf']
    generalize moreT f h = q at *
    rcases hm with rfl | ⟨rfl, h2⟩ <;> omega
  refine ⟨?_, ?_⟩
  · simp [stepD, stepT, e1]
  · simp [stepD, stepT, mirD, e2]
theorem q_turn (F : Nat → List D → Wd → Res D) {r h t l : Int} (a0 a1 a2 a3 a4 a6 a7 a8 a9 a13 a14 a15 a16 a17 : Option D) (S1 S2 : List D) (j : Int) (w : Wd)
    (e1 : ixD (.lst S1) (.int j) w = some (tp2 t l)) (e2 : ixD (.lst S2) (.int j) w = some (tp2 (r - h - t) (r - 1 - l))) :
    evSs F sub (.cons (.asg (.tup (.cons (.nm 7) (.cons (.nm 16) .nil))) (.ix (.var 12) (.var 5))) (.cons (.ite (.cmp .ne (.tup (.cons (.bin .sub (.bin .sub (.ix (.var 10) (.con (.int 0))) (.ix (.var 10) (.con (.int 1)))) (.var 7)) (.cons (.bin .sub (.bin .sub (.ix (.var 10) (.con (.int 0))) (.con (.int 1))) (.var 16)) .nil))) (.ix (.var 11) (.var 5))) (.cons (.ret (.con (.bl false))) .nil) .nil) .nil)) [a0, a1, a2, a3, a4, some (.int j), a6, a7, a8, a9, some (tp2 r h), some (.lst S1), some (.lst S2), a13, a14, a15, a16, a17] w =
      .nx [a0, a1, a2, a3, a4, some (.int j), a6, some (.int (r - h - t)), a8, a9, some (tp2 r h), some (.lst S1), some (.lst S2), a13, a14, a15, some (.int (r - 1 - l)), a17] w := by
  have p := ne_refl (w := w) ((pu_int2 t l).le (by decide : 1 ≤ 60))
  have x1 : r - h - (r - h - t) = t := by omega
  have x2 : r - 1 - (r - 1 - l) = l := by omega
  simp [e1, e2, x1, x2, p]
theorem q_loop (F : Nat → List D → Wd → Res D) {r h : Int} (a0 a1 a2 a3 a4 a6 a8 a9 a13 a14 a15 a17 : Option D) (X : List D) (hX : ∀ y ∈ X, ValD r h y) (w : Wd) : ∀ (n j : Nat) (x5 x7 x16 : Option D), j + n = X.length →
    ∃ y5 y7 y16, forL (.nm 5) (evSs F sub (.cons (.asg (.tup (.cons (.nm 7) (.cons (.nm 16) .nil))) (.ix (.var 12) (.var 5))) (.cons (.ite (.cmp .ne (.tup (.cons (.bin .sub (.bin .sub (.ix (.var 10) (.con (.int 0))) (.ix (.var 10) (.con (.int 1)))) (.var 7)) (.cons (.bin .sub (.bin .sub (.ix (.var 10) (.con (.int 0))) (.con (.int 1))) (.var 16)) .nil))) (.ix (.var 11) (.var 5))) (.cons (.ret (.con (.bl false))) .nil) .nil) .nil))) (rangeL (1 + (j : Int)) 1 n) [a0, a1, a2, a3, a4, x5, a6, x7, a8, a9, some (tp2 r h), some (.lst (tp2 0 0 :: X)), some (.lst (tp2 0 0 :: X.map (mirD r h))), a13, a14, a15, x16, a17] w =
      .nx [a0, a1, a2, a3, a4, y5, a6, y7, a8, a9, some (tp2 r h), some (.lst (tp2 0 0 :: X)), some (.lst (tp2 0 0 :: X.map (mirD r h))), a13, a14, a15, y16, a17] w
  | 0, j, x5, x7, x16, _ => ⟨x5, x7, x16, rfl⟩
  | n + 1, j, x5, x7, x16, hj => by
    have hlt : j < X.length := by omega
    obtain ⟨t, l, e, va⟩ := hX X[j] (List.getElem_mem _)
    have e1 : ixD (.lst (tp2 0 0 :: X)) (.int (1 + (j : Int))) w = some (tp2 t l) := by
      rw [show (1 + (j : Int)) = ((j + 1 : Nat) : Int) by omega, ix_nth _ (j + 1) (by rw [List.length_cons]; omega), List.getElem_cons_succ, e]
    have e2 : ixD (.lst (tp2 0 0 :: X.map (mirD r h))) (.int (1 + (j : Int))) w = some (tp2 (r - h - t) (r - 1 - l)) := by
      rw [show (1 + (j : Int)) = ((j + 1 : Nat) : Int) by omega, ix_nth _ (j + 1) (by rw [List.length_cons, List.length_map]; omega), List.getElem_cons_succ, List.getElem_map, e]
      rfl
    have tn := q_turn F a0 a1 a2 a3 a4 a6 x7 a8 a9 a13 a14 a15 x16 a17 _ _ (1 + (j : Int)) w e1 e2
    obtain ⟨y5, y7, y16, ih⟩ := q_loop F a0 a1 a2 a3 a4 a6 a8 a9 a13 a14 a15 a17 X hX w n (j + 1) (some (.int (1 + (j : Int)))) (some (.int (r - h - t))) (some (.int (r - 1 - l))) (by omega)
    refine ⟨y5, y7, y16, ?_⟩
    rw [rangeL, forL]
    show SR.turn (evSs F sub (.cons (.asg (.tup (.cons (.nm 7) (.cons (.nm 16) .nil))) (.ix (.var 12) (.var 5))) (.cons (.ite (.cmp .ne (.tup (.cons (.bin .sub (.bin .sub (.ix (.var 10) (.con (.int 0))) (.ix (.var 10) (.con (.int 1)))) (.var 7)) (.cons (.bin .sub (.bin .sub (.ix (.var 10) (.con (.int 0))) (.con (.int 1))) (.var 16)) .nil))) (.ix (.var 11) (.var 5))) (.cons (.ret (.con (.bl false))) .nil) .nil) .nil)) [a0, a1, a2, a3, a4, some (.int (1 + (j : Int))), a6, x7, a8, a9, some (tp2 r h), some (.lst (tp2 0 0 :: X)), some (.lst (tp2 0 0 :: X.map (mirD r h))), a13, a14, a15, x16, a17] w) _ = _
    rw [tn]
    show forL (.nm 5) _ (rangeL (1 + (j : Int) + 1) 1 n) _ w = _
    rw [show (1 + (j : Int) + 1) = 1 + ((j + 1 : Nat) : Int) by omega]
    exact ih
theorem rng1n (n : Nat) (hn : n ≤ 1000) : rngItems [.int 1, .int ((n + 1 : Nat) : Int)] = some (rangeL 1 1 n) := by
  have e1 : (rgOk 1 && rgOk ((n + 1 : Nat) : Int)) = true := by
    unfold rgOk
    simp only [Bool.and_eq_true, decide_eq_true_eq]
    omega
  have e2 : (((n + 1 : Nat) : Int) - 1).toNat = n := by omega
  unfold rngItems
  dsimp only
  rw [if_pos e1, e2]
theorem q_walk (F : Nat → List D → Wd → Res D) {r h : Int} (a0 a1 a2 a3 a4 a6 a8 a9 a13 a14 a15 a17 : Option D) (X : List D) (hX : ∀ y ∈ X, ValD r h y) (hl : X.length ≤ 1000) (w : Wd) :
    ∃ y5 y7 y16, evS F sub (.for_ (.nm 5) (.rng (.cons (.con (.int 1)) (.cons (.prim .len (.cons (.var 11) .nil)) .nil))) (.cons (.asg (.tup (.cons (.nm 7) (.cons (.nm 16) .nil))) (.ix (.var 12) (.var 5))) (.cons (.ite (.cmp .ne (.tup (.cons (.bin .sub (.bin .sub (.ix (.var 10) (.con (.int 0))) (.ix (.var 10) (.con (.int 1)))) (.var 7)) (.cons (.bin .sub (.bin .sub (.ix (.var 10) (.con (.int 0))) (.con (.int 1))) (.var 16)) .nil))) (.ix (.var 11) (.var 5))) (.cons (.ret (.con (.bl false))) .nil) .nil) .nil))) [a0, a1, a2, a3, a4, none, a6, none, a8, a9, some (tp2 r h), some (.lst (tp2 0 0 :: X)), some (.lst (tp2 0 0 :: X.map (mirD r h))), a13, a14, a15, none, a17] w =
      .nx [a0, a1, a2, a3, a4, y5, a6, y7, a8, a9, some (tp2 r h), some (.lst (tp2 0 0 :: X)), some (.lst (tp2 0 0 :: X.map (mirD r h))), a13, a14, a15, y16, a17] w := by
  obtain ⟨y5, y7, y16, kl⟩ := q_loop F (r := r) (h := h) a0 a1 a2 a3 a4 a6 a8 a9 a13 a14 a15 a17 X hX w X.length 0 none none none (by omega)
  have one : (1 + ((0 : Nat) : Int)) = 1 := by decide
  rw [one] at kl
  have e := rng1n X.length hl
  refine ⟨y5, y7, y16, ?_⟩
  rw [evS_for, evIt_rng, evEs_cons, evE_con, Res.bind_ok, evEs_cons, evE_prim, evEs_cons, evE_var, lk_11, Res.of_some, Res.bind_ok, evEs_nil, Res.bind_ok, Res.bind_ok, pr_len_lst, Res.bind_ok, evEs_nil, Res.bind_ok, Res.bind_ok, Res.bind_ok, List.length_cons, e, Res.of_some, Res.sr_ok]
  exact kl
/-! ## wheels -/
theorem wh_up {f s p : Str} {m : Int} {v b : Str} {r h : Int} (sh : Shape r h) : ∀ (n : Nat) (t l : Int), Val r h t l → ∃ l', (List.replicate n (D.tup [.str "wheelup"])).foldl (stepD f s p m v b r h) (tp2 t l) = tp2 (max 0 (t - n)) l' ∧ Val r h (max 0 (t - n)) l'
  | 0, t, l, va => ⟨l, by
      obtain ⟨v1, v2, v3, v4⟩ := va
      have e : max 0 (t - ((0 : Nat) : Int)) = t := by omega
      rw [e]
      exact ⟨rfl, v1, v2, v3, v4⟩⟩
  | n + 1, t, l, va => by
    have hv := wheelT_ok (v := v) (more := -1) sh va
    obtain ⟨l', e1, e2⟩ := wh_up (f := f) (s := s) (p := p) (m := m) (v := v) (b := b) sh n (wheelT v r h t l (-1)).1 (wheelT v r h t l (-1)).2 hv
    have q : max 0 ((wheelT v r h t l (-1)).1 - n) = max 0 (t - ((n + 1 : Nat) : Int)) := by
      obtain ⟨s1, s2, s3, s4, s5⟩ := sh
      obtain ⟨v1, v2, v3, v4⟩ := va
      show max 0 (boundedT (t + -1) 0 (r - h) - n) = _
      unfold boundedT
      omega
    refine ⟨l', ?_, by rw [← q]; exact e2⟩
    rw [List.replicate_succ, List.foldl_cons, ← q, ← e1]
    simp [stepD, stepT]
theorem wh_down {f s p : Str} {m : Int} {v b : Str} {r h : Int} (sh : Shape r h) : ∀ (n : Nat) (t l : Int), Val r h t l → ∃ l', (List.replicate n (D.tup [.str "wheeldown"])).foldl (stepD f s p m v b r h) (tp2 t l) = tp2 (min (r - h) (t + n)) l' ∧ Val r h (min (r - h) (t + n)) l'
  | 0, t, l, va => ⟨l, by
      obtain ⟨v1, v2, v3, v4⟩ := va
      have e : min (r - h) (t + ((0 : Nat) : Int)) = t := by omega
      rw [e]
      exact ⟨rfl, v1, v2, v3, v4⟩⟩
  | n + 1, t, l, va => by
    have hv := wheelT_ok (v := v) (more := 1) sh va
    obtain ⟨l', e1, e2⟩ := wh_down (f := f) (s := s) (p := p) (m := m) (v := v) (b := b) sh n (wheelT v r h t l 1).1 (wheelT v r h t l 1).2 hv
    have q : min (r - h) ((wheelT v r h t l 1).1 + n) = min (r - h) (t + ((n + 1 : Nat) : Int)) := by
      obtain ⟨s1, s2, s3, s4, s5⟩ := sh
      obtain ⟨v1, v2, v3, v4⟩ := va
      show min (r - h) (boundedT (t + 1) 0 (r - h) + n) = _
      unfold boundedT
      omega
    refine ⟨l', ?_, by rw [← q]; exact e2⟩
    rw [List.replicate_succ, List.foldl_cons, ← q, ← e1]
    simp [stepD, stepT]
theorem mul8 (d : D) (w : Wd) : bin .mul (.lst [d]) (.int 8) w = some (.lst (List.replicate 8 d)) := by kernel_rfl

theorem law (ns : List Int) (hn : ns.length ≤ 63) : ∃ w', run T.Pr T.sub 12 31 [.scr ns] [] = .ok (.bl true) w' := by
  show ∃ w', run Pr sub 12 31 [.scr ns] [] = .ok (.bl true) w'
  obtain ⟨m0, g0, e0⟩ := l_start 10 ns
  obtain ⟨m1, c1, f, s, p, v, b, m, g1, hf, hs, hp, hm, hv, hb, e1⟩ := l_way 8 g0 0 []
  obtain ⟨m2, d, g2, hd, e2⟩ := l_pick 9 g1 c1 [] (xs := shapesD) (by simp [shapesD, shapesL]) (by simp [shapesD, shapesL])
  obtain ⟨r, h, rfl, sh⟩ := shapesD_ok d hd
  obtain ⟨m4, c4, row, g4, hr, hl, e4⟩ := l_row 7 g2 (c1 + 1) [] sh (longest := 30) (by decide) (by decide)
  obtain ⟨m5, y, g5, hy, e5⟩ := l_pick 9 g4 c4 [] (xs := [.str "least", .str "margin"]) (by simp) (by simp)
  have hy2 : ∃ q, y = .str q ∧ Evn q := by
    simp at hy
    rcases hy with rfl | rfl
    · exact ⟨_, rfl, .inl rfl⟩
    · exact ⟨_, rfl, .inr rfl⟩
  obtain ⟨f', rfl, he⟩ := hy2
  have hf' : Fol f' := by
    rcases he with e | e
    · exact .inl e
    · exact .inr (.inr (.inr e))
  have hrt : ∀ d ∈ row.map (turnD h), Deed h d := fun d hd => by
    obtain ⟨z, hz, rfl⟩ := List.mem_map.mp hd
    exact turnD_ok (hr z hz)
  have hr1 : ∀ d ∈ [D.tup [.str "home"]] ++ row, Deed h d := fun d hd => by
    rcases List.mem_append.mp hd with hd | hd
    · rw [List.mem_singleton.mp hd]; exact .home
    · exact hr d hd
  have hr2 : ∀ d ∈ [D.tup [.str "end"]] ++ row.map (turnD h), Deed h d := fun d hd => by
    rcases List.mem_append.mp hd with hd | hd
    · rw [List.mem_singleton.mp hd]; exact .end_
    · exact hrt d hd
  obtain ⟨ho, en⟩ := home0 (s := s) (p := p) he m v b sh
  have hX : ∀ y ∈ tp2 0 0 :: scanT (stepD f' s p m v b r h) (tp2 0 0) row, ValD r h y := fun y hy => by
    rcases List.mem_cons.mp hy with rfl | hy
    · exact val0 sh
    · exact scan_all (stepD f' s p m v b r h) (P := ValD r h) (Q := Deed h) (fun x d => stepD_ok sh x d) row _ (val0 sh) hr y hy
  have S1 : statesD f' s p m v b r h ([D.tup [.str "home"]] ++ row) = tp2 0 0 :: (tp2 0 0 :: scanT (stepD f' s p m v b r h) (tp2 0 0) row) := by
    show tp2 0 0 :: scanT _ _ (D.tup [.str "home"] :: row) = _
    rw [scanT, ho]
  have S2 : statesD f' s p m v b r h ([D.tup [.str "end"]] ++ row.map (turnD h)) = tp2 0 0 :: (tp2 0 0 :: scanT (stepD f' s p m v b r h) (tp2 0 0) row).map (mirD r h) := by
    show tp2 0 0 :: scanT _ _ (D.tup [.str "end"] :: row.map (turnD h)) = _
    rw [scanT, en, scan_mir he hm sh row _ (val0 sh) hr]
    rfl
  have sa1 := fun w => r_states_along 5 hf' hs hp hm hv hb sh w hr1 (by simp; omega)
  have sa2 := fun w => r_states_along 5 hf' hs hp hm hv hb sh w hr2 (by simp; omega)
  rw [S1] at sa1
  rw [S2] at sa2
  have ad := fun (x : D) (ys : List D) (hy : ys.length ≤ 40) w => add_lst (w := w) [x] ys (by unfold line; simp; omega)
  have ad1 := ad (.tup [.str "home"]) row (by omega)
  have ad2 := ad (.tup [.str "end"]) (row.map (turnD h)) (by simp; omega)
  have lc := fun (x1 x5 x6 x7 x8 x9 x11 x12 x13 x14 x16 x17 : Option D) w => lc_map (ρ := [some (.scr ns), x1, some (.lst row), some (wayD f' s p m v b), none, x5, x6, x7, x8, x9, some (tp2 r h), x11, x12, x13, x14, none, x16, x17]) (t := 15) (c := evE (run Pr sub 11) (.con (.bl true))) (f := evE (run Pr sub 11) (.call 29 (.cons (.var 10) (.cons (.var 15) .nil)))) (g := turnD h) (w := w) (by simp)
    row [] (fun d hd => ⟨rfl, by simp [l_turned 10 (hr d hd)]⟩) (by unfold line; simp; omega)
  obtain ⟨y5, y7, y16, qw⟩ := q_walk (run Pr sub 11) (r := r) (h := h) (some (.scr ns)) (some (.loc 1)) (some (.lst row)) (some (wayD f' s p m v b)) (some (.lst (row.map (turnD h)))) none none (some (wayD f s p m v b)) none none none none _ hX (by simp [scan_len]; omega) (Dw m5 (c4 + 1) [] ++ [.dead] ++ [.dead])
  have key : ∃ w', evSs (run Pr sub 11) sub b31 [some (.scr ns), none, none, none, none, none, none, none, none, none, none, none, none, none, none, none, none, none] [] = .rt (.bl true) w' := by
    unfold b31
    refine ex_step (ρ' := [some (.scr ns), some (.loc 1), none, none, none, none, none, none, none, none, none, none, none, none, none, none, none, none]) (w' := Dw m0 0 []) (by simp [e0]) ?_
    refine ex_step (ρ' := [some (.scr ns), some (.loc 1), none, none, none, none, none, none, none, some (wayD f s p m v b), some (tp2 r h), none, none, none, none, none, none, none]) (w' := Dw m2 (c1 + 1) []) (by simp [e1, l_shapes, e2]) ?_
    refine ex_step (ρ' := [some (.scr ns), some (.loc 1), some (.lst row), none, none, none, none, none, none, some (wayD f s p m v b), some (tp2 r h), none, none, none, none, none, none, none]) (w' := Dw m4 c4 []) (by simp [e4]) ?_
    refine ex_step (ρ' := [some (.scr ns), some (.loc 1), some (.lst row), some (wayD f' s p m v b), none, none, none, none, none, some (wayD f s p m v b), some (tp2 r h), none, none, none, none, none, none, none]) (w' := Dw m5 (c4 + 1) []) (by simp [e5, tslc1, tadd15]) ?_
    refine ex_step (ρ' := [some (.scr ns), some (.loc 1), some (.lst row), some (wayD f' s p m v b), some (.lst (row.map (turnD h))), none, none, none, none, some (wayD f s p m v b), some (tp2 r h), none, none, none, none, none, none, none]) (w' := Dw m5 (c4 + 1) []) (by
      rw [evS_asg, evE_lc, evIt_val, evE_var, lk_2, Res.of_some, Res.bind_ok]
      show ((((Res.of (some row) (Dw m5 (c4 + 1) [])).bind _).sr _ _)) = _
      rw [Res.of_some, Res.bind_ok, lc]
      simp) ?_
    refine ex_step (ρ' := [some (.scr ns), some (.loc 1), some (.lst row), some (wayD f' s p m v b), some (.lst (row.map (turnD h))), none, none, none, none, some (wayD f s p m v b), some (tp2 r h), some (.lst (tp2 0 0 :: (tp2 0 0 :: scanT (stepD f' s p m v b r h) (tp2 0 0) row))), some (.lst (tp2 0 0 :: (tp2 0 0 :: scanT (stepD f' s p m v b r h) (tp2 0 0) row).map (mirD r h))), none, none, none, none, none]) (w' := Dw m5 (c4 + 1) [] ++ [.dead] ++ [.dead]) (by simp only [evS_asg, evE_tup, evEs_cons, evEs_nil, evE_call, evE_var, evE_bin, evE_lst, evE_con, lk_3, lk_10, lk_2, lk_4, Res.of_some, Res.bind_ok, ad1, ad2, sa1, sa2, Res.sr_ok, asgK_tup, bindTs_cons, bindT_nm]; simp) ?_
    refine ex_step qw ?_
    have hrow40 : row.length ≤ 40 := by omega
    obtain ⟨t, l, el, va⟩ := lastS_ok (f := f) (s := s) (p := p) (v := v) (b := b) (m := m) sh hr
    have fol : row.foldl (stepD f s p m v b r h) (tp2 0 0) = tp2 t l := by rw [← lastS_fold]; exact el
    obtain ⟨lu, eu, vu⟩ := wh_up (f := f) (s := s) (p := p) (m := m) (v := v) (b := b) sh 8 t l va
    obtain ⟨ld, ed, vd⟩ := wh_down (f := f) (s := s) (p := p) (m := m) (v := v) (b := b) sh 8 t l va
    have zu : max 0 (t - ((8 : Nat) : Int)) = 0 := by obtain ⟨s1, s2, s3, s4, s5⟩ := sh; obtain ⟨v1, v2, _⟩ := va; omega
    have zd : min (r - h) (t + ((8 : Nat) : Int)) = r - h := by obtain ⟨s1, s2, s3, s4, s5⟩ := sh; obtain ⟨v1, v2, _⟩ := va; omega
    rw [zu] at eu
    rw [zd] at ed
    have hru : ∀ d ∈ row ++ List.replicate 8 (D.tup [.str "wheelup"]), Deed h d := fun d hd => by
      rcases List.mem_append.mp hd with hd | hd
      · exact hr d hd
      · rw [List.eq_of_mem_replicate hd]; exact .wheelup
    have hrd : ∀ d ∈ row ++ List.replicate 8 (D.tup [.str "wheeldown"]), Deed h d := fun d hd => by
      rcases List.mem_append.mp hd with hd | hd
      · exact hr d hd
      · rw [List.eq_of_mem_replicate hd]; exact .wheeldown
    have su : ∀ w, run Pr sub 11 20 [wayD f s p m v b, tp2 r h, .lst (row ++ List.replicate 8 (D.tup [.str "wheelup"]))] w = .ok (tp2 0 lu) (w ++ [.dead]) := fun w => by
      have z := r_state_after 4 hf hs hp hm hv hb sh w hru (by simp; omega)
      rw [lastS_fold, List.foldl_append, fol, eu] at z
      exact z
    have sd : ∀ w, run Pr sub 11 20 [wayD f s p m v b, tp2 r h, .lst (row ++ List.replicate 8 (D.tup [.str "wheeldown"]))] w = .ok (tp2 (r - h) ld) (w ++ [.dead]) := fun w => by
      have z := r_state_after 4 hf hs hp hm hv hb sh w hrd (by simp; omega)
      rw [lastS_fold, List.foldl_append, fol, ed] at z
      exact z
    have adu := fun (x : D) w => add_lst (w := w) row (List.replicate 8 x) (by unfold line; simp; omega)
    refine ex_step (ρ' := [some (.scr ns), some (.loc 1), some (.lst row), some (wayD f' s p m v b), some (.lst (row.map (turnD h))), y5, none, y7, none, some (wayD f s p m v b), some (tp2 r h), some (.lst (tp2 0 0 :: (tp2 0 0 :: scanT (stepD f' s p m v b r h) (tp2 0 0) row))), some (.lst (tp2 0 0 :: (tp2 0 0 :: scanT (stepD f' s p m v b r h) (tp2 0 0) row).map (mirD r h))), none, none, none, y16, none]) (w' := Dw m5 (c4 + 1) [] ++ [.dead] ++ [.dead] ++ [.dead] ++ [.dead]) ?_ ?_
    · have mu := fun w => mul8 (.tup [.str "wheelup"]) w
      have md := fun w => mul8 (.tup [.str "wheeldown"]) w
      have au := adu (.tup [.str "wheelup"])
      have ad := adu (.tup [.str "wheeldown"])
      clear eu ed hru hrd adu
      generalize List.replicate 8 (D.tup [.str "wheelup"]) = qu at mu au su
      generalize List.replicate 8 (D.tup [.str "wheeldown"]) = qd at md ad sd
      simp [mu, md, au, ad, su, sd]
    obtain ⟨m6, pl, g6, p1, p2, e6⟩ := l_draw 10 g5 (c4 + 1) ([.dead, .dead, .dead, .dead]) (lim := h) (by obtain ⟨s1, s2, s3, s4, s5⟩ := sh; omega) (by obtain ⟨s1, s2, s3, s4, s5⟩ := sh; omega)
    have ew : Dw m5 (c4 + 1) [] ++ [.dead] ++ [.dead] ++ [.dead] ++ [.dead] = Dw m5 (c4 + 1) [.dead, .dead, .dead, .dead] := rfl
    rw [ew]
    generalize hX1 : D.lst (tp2 0 0 :: (tp2 0 0 :: scanT (stepD f' s p m v b r h) (tp2 0 0) row)) = x11
    generalize hX2 : D.lst (tp2 0 0 :: (tp2 0 0 :: scanT (stepD f' s p m v b r h) (tp2 0 0) row).map (mirD r h)) = x12
    generalize hX4 : D.lst (row.map (turnD h)) = x4
    have sf : ∀ w, run Pr sub 11 20 [wayD f s p m v b, tp2 r h, .lst row] w = .ok (tp2 t l) (w ++ [.dead]) := fun w => by
      have z := r_state_after 4 hf hs hp hm hv hb sh w hr hrow40
      rw [el] at z
      exact z
    have hrc : ∀ d ∈ row ++ [D.tup [.str "click", .int pl]], Deed h d := fun d hd => by
      rcases List.mem_append.mp hd with hd | hd
      · exact hr d hd
      · rw [List.mem_singleton.mp hd]; exact .click _ p1 p2
    have sc : ∀ w, run Pr sub 11 20 [wayD f s p m v b, tp2 r h, .lst (row ++ [D.tup [.str "click", .int pl]])] w = .ok (tp2 t (t + pl)) (w ++ [.dead]) := fun w => by
      have z := r_state_after 4 hf hs hp hm hv hb sh w hrc (by simp; omega)
      rw [lastS_app, el] at z
      exact z
    have adc := fun w => add_lst (w := w) row [D.tup [.str "click", .int pl]] (by unfold line; simp; omega)
    have pc := fun w => ne_refl (w := w) ((pu_int2 t (t + pl)).le (by decide : 1 ≤ 60))
    refine ex_step (ρ' := [some (.scr ns), some (.loc 1), some (.lst row), some (wayD f' s p m v b), some x4, y5, some (.int pl), y7, none, some (wayD f s p m v b), some (tp2 r h), some x11, some x12, none, none, none, y16, none]) (w' := Dw m6 (c4 + 1 + 1) [.dead, .dead, .dead, .dead]) (by simp [e6]) ?_
    refine ex_step (ρ' := [some (.scr ns), some (.loc 1), some (.lst row), some (wayD f' s p m v b), some x4, y5, some (.int pl), some (.int t), none, some (wayD f s p m v b), some (tp2 r h), some x11, some x12, none, none, none, y16, none]) (w' := Dw m6 (c4 + 1 + 1) [.dead, .dead, .dead, .dead] ++ [.dead]) (by simp [sf]) ?_
    refine ex_step (ρ' := [some (.scr ns), some (.loc 1), some (.lst row), some (wayD f' s p m v b), some x4, y5, some (.int pl), some (.int t), none, some (wayD f s p m v b), some (tp2 r h), some x11, some x12, none, none, none, y16, none]) (w' := Dw m6 (c4 + 1 + 1) [.dead, .dead, .dead, .dead] ++ [.dead] ++ [.dead]) (by simp [adc, sc, pc]) ?_
    refine ex_step (ρ' := [some (.scr ns), some (.loc 1), some (.lst row), some (wayD f' s p m v b), some x4, y5, some (.int pl), some (.int t), none, some (wayD f s p m v b), some (tp2 r h), some x11, some x12, some (wayD "least" s p m v b), some (wayD "margin" s p m v b), none, y16, none]) (w' := Dw m6 (c4 + 1 + 1) [.dead, .dead, .dead, .dead] ++ [.dead] ++ [.dead]) (by simp [tslc1, tadd15]) ?_
    have sl := fun w => r_states_along 5 (f := "least") (.inl rfl) hs hp hm hv hb sh w hr hrow40
    have sm := fun w => r_states_along 5 (f := "margin") (.inr (.inr (.inr rfl))) hs hp hm hv hb sh w hr hrow40
    refine ex_step (ρ' := [some (.scr ns), some (.loc 1), some (.lst row), some (wayD f' s p m v b), some x4, y5, some (.int pl), some (.int t), some (.lst [.lst (statesD "least" s p m v b r h row), .lst (statesD "margin" s p m v b r h row)]), some (wayD f s p m v b), some (tp2 r h), some x11, some x12, some (wayD "least" s p m v b), some (wayD "margin" s p m v b), none, y16, none]) (w' := Dw m6 (c4 + 1 + 1) [.dead, .dead, .dead, .dead] ++ [.dead] ++ [.dead] ++ [.dead] ++ [.dead]) (by
      generalize statesD "least" s p m v b r h row = ql at *
      generalize statesD "margin" s p m v b r h row = qm at *
      have hl : (0 : Nat) < line := by decide
      have hl1 : (1 : Nat) < line := by decide
      simp [itemsD, lcL, sl, sm, hl, hl1]) ?_
    have eqL : h = 2 → statesD "least" s p m v b r h row = statesD "margin" s p m v b r h row := fun e => by
      have q : stepD "least" s p m v b r h = stepD "margin" s p m v b r h := by
        have tq : ∀ t l, topT "least" r h t l = topT "margin" r h t l := fun t l => by
          unfold topT moreT
          simp [e]
        funext x d
        unfold stepD
        split
        · unfold stepT
          simp only [tq]
        · rfl
      unfold statesD
      rw [q]
    have pS : Pu 60 (.lst (statesD "margin" s p m v b r h row)) := (pu_lst (n := 1) fun y hy => by
      have : ValD r h y := by
        rcases List.mem_cons.mp hy with rfl | hy
        · exact val0 sh
        · exact scan_all (stepD "margin" s p m v b r h) (P := ValD r h) (Q := Deed h) (fun x d => stepD_ok sh x d) row _ (val0 sh) hr y hy
      obtain ⟨t, l, rfl, _⟩ := this
      exact pu_int2 t l).le (by decide)
    refine ex_step (ρ' := [some (.scr ns), some (.loc 1), some (.lst row), some (wayD f' s p m v b), some x4, y5, some (.int pl), some (.int t), some (.lst [.lst (statesD "least" s p m v b r h row), .lst (statesD "margin" s p m v b r h row)]), some (wayD f s p m v b), some (tp2 r h), some x11, some x12, some (wayD "least" s p m v b), some (wayD "margin" s p m v b), none, y16, none]) (w' := Dw m6 (c4 + 1 + 1) [.dead, .dead, .dead, .dead] ++ [.dead] ++ [.dead] ++ [.dead] ++ [.dead]) (by
      by_cases e : h = 2
      · have z := eqL e
        generalize statesD "least" s p m v b r h row = ql at *
        generalize statesD "margin" s p m v b r h row = qm at *
        subst z
        simp [e, ne_refl pS]
      · generalize statesD "least" s p m v b r h row = ql at *
        generalize statesD "margin" s p m v b r h row = qm at *
        simp [e]) ?_
    have fo := fun w a0 => r_follows 3 hf hs hp hm hv hb sh w a0 hr (by omega)
    generalize statesD "least" s p m v b r h row = ql at *
    generalize statesD "margin" s p m v b r h row = qm at *
    refine ⟨Dw m6 (c4 + 1 + 1) [.dead, .dead, .dead, .dead] ++ [.dead] ++ [.dead] ++ [.dead] ++ [.dead] ++ [.dead] ++ [.dead] ++ [.dead] ++ [.dead] ++ [.dead] ++ [.dead], ?_⟩
    simp [fo]
  obtain ⟨w', hw⟩ := key
  exact ⟨w', by rw [u_law, hw]; rfl⟩

end L19
set_option maxHeartbeats 0
namespace L19
open PySem Ir
def loose0 : List Str := ["WindowError", "BadWay", "BadDeeds", "BadNumber", "is_int", "KINDS", "MOST_ROW", "is_form", "check_shape", "is_one", "are_deeds", "check_row", "START", "bounded", "place_of", "nearest", "wished", "followed", "arrow", "paged", "wheeled", "step", "FOLLOWS", "STEPS", "PAGED", "WHEELS", "BACKS", "is_word", "is_way", "check_way"]
def loose1 : List Str := ["states_of", "states_along", "state_after", "_law_start", "_law_draw", "_law_pick", "_law_kinds", "_law_deeds", "_law_shapes", "_law_way", "_law_row", "_law_turned", "_law_follows"]
abbrev loose : List Str := loose0 ++ loose1
abbrev R : PySem.W.OpenRow := PySem.W.OpenLaw.row PySem.Challenge.rw_leadwindows_k19_whole_mirrored
abbrev hk : PySem.W.Hook := T.hook 4
def ob (s : PySem.W.SharedT) : He.AlD := T.obsG 4 (HandSHeadRun.getT s)
theorem ob_eq (s : PySem.W.SharedT) : ob s = hk.obs s.abs := T.obsG_eq (HandSHeadRun.getT_eq s)
theorem hrun (w : World) : HandSHeadRun.RunEq R (PySem.W.view R.prog [49]) hk ob 4000 loose w := by
  intro os
  kernel_rfl
end L19
open PySem PySem.W PySem.Calls PyProof.Rows
theorem L19.holds : PySem.Challenge.rw_leadwindows_k19_whole_mirrored.Holds := by
  w_on; o_law
  refine HandSHeadRun.head_any (r := OpenLaw.row PySem.Challenge.rw_leadwindows_k19_whole_mirrored) (q := view (OpenLaw.row PySem.Challenge.rw_leadwindows_k19_whole_mirrored).prog [49]) (H := L19.hk) (ob := L19.ob) (M := 4000) (loose := L19.loose) (d := HandSHeadRun.topDef (OpenLaw.row PySem.Challenge.rw_leadwindows_k19_whole_mirrored).prog 49) (kwd := []) L19.ob_eq
    (by kernel_rfl) (fun s => by kernel_rfl) L19.hrun (by kernel_rfl) (by kernel_rfl) (by kernel_rfl) (by rfl) (by first | assumption | decide +kernel) (by decide +kernel) ⟨rfl, rfl, rfl, rfl, rfl, by decide +kernel⟩ ?hw ?hc
  case hw => w_witness2
  case hc =>
    refine L2.walk_ofE (l := PySem.Challenge.rw_leadwindows_k19_whole_mirrored) (n := 63) (k := 12) (x := "_law_script") (CX := Ir.CXA) rfl (by decide) (by kernel_rfl) ⟨rfl, by decide, by decide⟩ ?F ?cx
    case cx => intro H s e s' c; exact Ir.cx_none c
    intro w mg fa h Y G hmg0
    obtain ⟨K, KX, c⟩ := Y
    have hmg : mg ("law" : PySem.Str) = some (.ref fa) := by
      have e : (HandSHeadRun.topDef (OpenLaw.row PySem.Challenge.rw_leadwindows_k19_whole_mirrored).prog 49).name = ("law" : PySem.Str) := by kernel_rfl
      rw [← e]
      exact hmg0
    obtain ⟨fd, sp, hb, hsp, hF⟩ := Ir.law_of (T := L19.T) (P := PySem.Challenge.rw_leadwindows_k19_whole_mirrored.prog) (w := w) L19.defsB c KX G (by decide +kernel) (f := 31) (k := 11) (n := 63) (i := L19.d31) rfl rfl hmg (by kernel_rfl) L19.law
    exact ⟨K, fd, sp, KX, hb, hsp, hF⟩
theorem PySem.Challenge.cw_leadwindows_k19_whole_mirrored_holds : PySem.Challenge.rw_leadwindows_k19_whole_mirrored.Holds := by
  exact L19.holds
